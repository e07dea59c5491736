/- Lemmas for RowBltAny. -/
import Derived.Test.YtmfcefakpfbaoaaZBlU
import Derived.Maps.Own
import Derived.Maps.OwnOps
import Derived.Maps.RangeWalk
import Derived.Sort.OwnSortedInts
section
set_option linter.unusedVariables false
set_option linter.unusedSimpArgs false
namespace Go.Proofs.Ytmfcefakpfbaoaa.PMatch
open Go.RowKit Go.Proofs.YtmfcefakpfbaoaaW.PrintWords Go.Proofs.YtmfcefakpfbaoaaW.PrintLast Go.Proofs.YtmfcefakpfbaoaaW.PrintMore
open Go.Maps (Keyed)
theorem lawI : Keyed Try.prog 3 := Maps.int_keyed Try.underlying3
def MapI (W : World) (b c : Nat) (Q : Int → Prop) : Prop := ∃ D : DataW Unit, W.ownsMap Try.prog 3 (plainElem Try.prog 4) b c D ∧ ∀ x : Int, Maps.has D (.int .i64 x) = true ↔ Q x
section
variable {W W' : World} {b c : Nat} {Q : Int → Prop}
theorem MapI.made (w : World) : MapI (w.alloc (.map #[] 0)) w.heap.size 0 (fun _ => False) := ⟨_, World.ownsMap_made _ _ _ _, fun x => by simp [Maps.has]⟩
theorem MapI.mono (h : MapI W b c Q) {c' : Nat} (hc : c ≤ c') : MapI W b c' Q := by
  obtain ⟨D, h1, h2⟩ := h
  exact ⟨D, h1.mono hc, h2⟩
theorem MapI.iff (h : MapI W b c Q) {Q' : Int → Prop} (hq : ∀ x, Q x ↔ Q' x) : MapI W b c Q' := by
  obtain ⟨D, h1, h2⟩ := h
  exact ⟨D, h1, fun x => (h2 x).trans (hq x)⟩
theorem MapI.lt (h : MapI W b c Q) : b < W.heap.size := by
  obtain ⟨D, h1, h2⟩ := h
  exact h1.lt
theorem MapI.block (h : MapI W b c Q) (hb : W'.heap[b]? = W.heap[b]?) : MapI W' b c Q := by
  obtain ⟨D, ⟨es, clock, h1, h2⟩, h3⟩ := h
  exact ⟨D, ⟨es, clock, hb.trans h1, h2⟩, h3⟩
theorem MapI.drew (h : MapI W b c Q) : MapI W.drew b c Q := h.block rfl
theorem MapI.update (h : MapI W b c Q) (hc : c < 4611686018427387904) {x : Int} (h0 : -9223372036854775808 ≤ x) (h1 : x ≤ 9223372036854775807) :
    ∃ W', (Instr.mapUpdate 103 (.map (some b)) (.int .i64 x) (.bool true)).run Try.prog W = .ok () W' ∧ MapI W' b (c + 1) (fun y => Q y ∨ y = x) ∧ W.grownBy W' (some b) := by
  obtain ⟨D, h2, h3⟩ := h
  have hkey := Maps.keyOf_int_mk (P := Try.prog) Try.underlying3 (a := x) (WalkArith.wf_i64 ⟨h0, h1⟩)
  obtain ⟨W', hrun, hown, hg⟩ := h2.update lawI (t := 103) (e := 4) Try.underlying103 (by unfold maxLen; omega) hkey (plainElem_bool (H := Unit) Try.underlying4 true)
  refine ⟨W', hrun, ⟨_, hown, fun y => ?_⟩, hg⟩
  by_cases e : y = x
  · subst e
    have hD : Maps.IsMap D := by obtain ⟨es, clock, _, _, _, rfl⟩ := h2; exact ⟨_, rfl⟩
    rw [Maps.has_put_same hD (lawI.key hkey)]
    simp
  · rw [Maps.has_put_other (by intro h; injection h with _ h; exact e h), h3]
    simp [e]
end
structure OEnv (N i sb wb bi : Nat) (p1 p2 p3 : Addr) (Ao : Option Addr) (co : Nat) (of : List Int) (W : World) : Prop where
  c1 : W.cell? p1 = some (.pointer (some ⟨sb, 0, none⟩))
  c2 : W.cell? p2 = some (.int .i64 (i : Int))
  c3 : W.cell? p3 = some (.slice (some ⟨wb, 0, none⟩) N N)
  cw : W.cell? ⟨wb, i, none⟩ = some (.map (some bi))
  cf : W.cell? ⟨sb, 5, none⟩ = some (.slice Ao of.length co)
  rf : Kd.C (Kd.int .i64) W Ao of.length of
  hi : i < N
  hf : ∀ j : Nat, j < of.length → -1 ≤ rd of j ∧ rd of j ≤ 1000000
set_option maxRecDepth 100000 in
set_option maxHeartbeats 4000000 in
theorem c_wait {N i sb wb bi c k : Nat} {p1 p2 p3 : Addr} {Ao : Option Addr} {co : Nat} {of : List Int} {W : World} {Q : Int → Prop} (he : OEnv N i sb wb bi p1 p2 p3 Ao co of W) (hm : MapI W bi c Q) (hc : c < 4611686018427387904) (hk : k < of.length) :
    Calls Try.prog 70 #[.int .i64 (k : Int), .pointer (some p1), .pointer (some p2), .pointer (some p3)] W fun ex W' => ex = .returned (.tuple #[]) ∧ W.grownBy W' (some bi) ∧ MapI W' bi (c + 1) (fun y => Q y ∨ y = rd of k ∧ y ≠ i) := by
  obtain ⟨c1, c2, c3, cw, cf, rf, hi, hf⟩ := he
  obtain ⟨ad, rfl, hc1⟩ := Kd.at_int rf (k : Int) (by omega) (by omega)
  rw [Int.toNat_natCast] at hc1
  have hb := hf k hk
  clear rf hf
  have hi0 : (0 : Int) ≤ (i : Int) := by omega
  have hi1 : (i : Int) < (N : Int) := by omega
  have hk0 : (0 : Int) ≤ (k : Int) := by omega
  have hk1 : (k : Int) < (of.length : Int) := by omega
  by_cases hx : rd of k = (i : Int)
  · go_enter Try.func70, Try.ntmps70
    go_wp2_with fail
    go_region
    go_wp2_with fail
    go_end0
    exact ⟨rfl, grown_of_below (below_drew (Below.refl _ _)) _, (hm.drew.mono (Nat.le_succ c)).iff (fun x => ⟨.inl, fun h => h.elim id (fun h => absurd (h.1.trans hx) h.2)⟩)⟩
  · obtain ⟨W', hrun, hM, hg⟩ := hm.drew.drew.update hc (x := rd of k) (by omega) (by omega)
    go_enter Try.func70, Try.ntmps70
    go_wp2_with fail
    go_region
    go_wp2_with fail
    go_region
    go_end0
    exact ⟨rfl, (grown_of_below (below_drew (below_drew (Below.refl _ _))) _).trans hg, hM.iff (fun x => ⟨fun h => h.imp id (fun h => ⟨h, h ▸ hx⟩), fun h => h.imp id (fun h => h.1)⟩)⟩
set_option maxRecDepth 100000 in
theorem elB_inv {v : Value} {y : DataW Unit × List MemPlace} (h : plainElem Try.prog 4 v = some y) : ∃ c, v = .bool c := by
  unfold plainElem at h
  rw [Try.underlying4] at h
  cases v <;> simp at h
  exact ⟨_, rfl⟩
def RngI (W : World) (b r c : Nat) (Q done : Int → Prop) (cnt : Nat) : Prop := ∃ (D : DataW Unit) (left : Lit → Bool), W.ranges Try.prog 3 (plainElem Try.prog 4) b r c D left cnt ∧ (∀ x : Int, Maps.has D (.int .i64 x) = true ↔ Q x) ∧ ∀ x : Int, done x ↔ Q x ∧ left (.int .i64 x) = false
section
variable {W W' : World} {b r c cnt : Nat} {Q done : Int → Prop}
theorem RngI.map (h : RngI W b r c Q done cnt) : MapI W b c Q := by
  obtain ⟨D, left, h1, h2, _⟩ := h
  exact ⟨D, h1.owns, h2⟩
theorem RngI.left_eq (h : RngI W b r c Q done cnt) : W.rangeLeft b r = cnt := by
  obtain ⟨D, left, h1, _⟩ := h
  exact h1.left_eq
theorem RngI.lt (h : RngI W b r c Q done cnt) : r < W.heap.size := by
  obtain ⟨D, left, h1, _⟩ := h
  exact h1.lt
theorem RngI.kept {row : Option Nat} (h : RngI W b r c Q done cnt) (hg : W.grownBy W' row) (hb : some b ≠ row) (hr : some r ≠ row) : RngI W' b r c Q done cnt := by
  obtain ⟨D, left, h1, h2⟩ := h
  exact ⟨D, left, h1.kept hg hb hr, h2⟩
theorem wp_rangeI {ops : Array Oper} {rest : List Oper} {o : Oper} {a : Act} {P' : Exit → Act → World → Prop} (hg : o.guard = none) (m : Operand) (hop : o.op = Op.range 103 m) (hm : a.eval m = .map (some b)) (h : MapI W b c Q)
    (hK : ∀ w' cnt, RngI w' b W.heap.size c Q (fun _ => False) cnt → W.grownBy w' none → w'.heap.size = W.heap.size + 1 → wpList Try.prog ops P' rest (a.put o.dst (.pointer (some ⟨W.heap.size, 0, none⟩))) w') :
    wpList Try.prog ops P' (o :: rest) a W := by
  obtain ⟨D, h1, h2⟩ := h
  refine wpList_range_own W hg m 103 hop 3 4 lawI Try.underlying103 (plainElem Try.prog 4) b c D hm h1 (fun w' h3 h4 h5 => hK w' _ ⟨D, _, h3, h2, fun x => ⟨fun h => h.elim, fun h => ?_⟩⟩ h4 h5)
  have := (h2 x).2 h.1
  rw [this] at h
  cases h.2
theorem wp_nextI {ops : Array Oper} {rest : List Oper} {o : Oper} {a : Act} {P' : Exit → Act → World → Prop} (hg : o.guard = none) (it : Operand) (hop : o.op = Op.next it false) (hit : a.eval it = .pointer (some ⟨r, 0, none⟩)) (h : RngI W b r c Q done cnt)
    (hDone : cnt = 0 → (∀ x, Q x → done x) → wpList Try.prog ops P' rest (a.put o.dst (.tuple #[.bool false])) W)
    (hMore : ∀ (x : Int) (v : Value) (w' : World) (cnt' : Nat), Q x → ¬ done x → RngI w' b r c Q (fun y => done y ∨ y = x) cnt' → cnt' < cnt → W.grownBy w' (some r) → w'.heap.size = W.heap.size →
      (Instr.entry (.pointer (some ⟨r, 0, none⟩))).run Try.prog w' = .ok (.tuple #[.int .i64 x, v]) w' → wpList Try.prog ops P' rest (a.put o.dst (.tuple #[.bool true, .int .i64 x, v])) w') :
    wpList Try.prog ops P' (o :: rest) a W := by
  obtain ⟨D, left, h1, h2, h3⟩ := h
  refine wpList_next_ranges W hg it hop 3 lawI (plainElem Try.prog 4) (Value.int .i64) Value.bool (fun key kl hkey => by obtain ⟨x, rfl, _⟩ := Maps.keyOf_int_inv Try.underlying3 hkey; exact ⟨x, rfl⟩) (fun v y hv => elB_inv hv) b r c D left cnt hit h1
    (fun h0 hl => hDone h0 (fun x hx => (h3 x).2 ⟨hx, hl _⟩)) (fun x v kl y w' cnt' hkey hlk hv hat hrg hlt hgr hsz hen => ?_)
  obtain ⟨x', ex, rfl, hwx⟩ := Maps.keyOf_int_inv Try.underlying3 hkey
  cases ex
  have hQ : Q x := (h2 x).1 (Maps.has_true_of_atKey hat)
  refine hMore x (.bool v) w' cnt' hQ (fun h => by have := ((h3 x).1 h).2; rw [hlk] at this; cases this) ⟨D, _, hrg, h2, fun z => ?_⟩ hlt hgr hsz hen
  show done z ∨ z = x ↔ _
  rw [h3 z]
  by_cases e : z = x
  · subst e; simp [hQ, Lit.sameKey]
  · simp [e, Lit.sameKey]
end
set_option maxRecDepth 100000 in
set_option maxHeartbeats 4000000 in
theorem c_left {W : World} {b c : Nat} {Q : Int → Prop} {Ap : Option Addr} {cp : Nat} {P : List Int} (hm : MapI W b c Q) (hQ : ∀ x, Q x → 0 ≤ x ∧ x < (P.length : Int)) (hP : Kd.C (Kd.int .i64) W Ap P.length P) :
    Calls Try.prog 71 #[.map (some b), .slice Ap P.length cp] W fun ex W' => ∃ r, ex = .returned (.bool r) ∧ (r = true ↔ ∃ x, Q x ∧ rd P x < 0) ∧ Below W.heap.size W W' := by
  go_enter Try.func71, Try.ntmps71
  go_wp2_with (first | (at_range; refine wp_rangeI rfl _ rfl rfl hm ?_; intro w0 cnt hrg0 hg0 hs0) | go_in)
  go_frame
  go_loopw [5] (fun _ wr => ∃ done cnt, RngI wr b W.heap.size c Q done cnt ∧ Below W.heap.size W wr ∧ ∀ x, done x → 0 ≤ rd P x) (fun _ wr => wr.rangeLeft b W.heap.size)
  case atStart => exact ⟨_, cnt, hrg0, (Below.refl _ _).grown hg0 (Nat.le_refl _) (fun k hk => by cases hk), fun x h => h.elim⟩
  case round =>
    obtain ⟨done, cnt1, hrg, hB, hd⟩ := hrel
    go_wp2_with (first | (at_next; refine wp_nextI rfl _ rfl rfl hrg ?_ ?_) | go_in)
    · intro _ hall
      go_wp2_with fail
      go_ret
      exact ⟨false, rfl, ⟨(fun h => by cases h), fun ⟨x, h1, h2⟩ => absurd (hd x (hall x h1)) (by omega)⟩, hB⟩
    · intro x v w1 cnt2 hqx hnd hrg1 hlt hg1 hs1 hen
      have hx := hQ x hqx
      have hB1 : Below W.heap.size W w1 := hB.grown hg1 hB.size (fun k hk => by cases hk; exact Nat.le_refl _)
      obtain ⟨ad, rfl, hc⟩ := Kd.at_int (Kd.C_below hP hB1) x hx.1 hx.2
      have hx1 := hx.1
      have hx2 := hx.2
      have hxt : (x.toNat : Int) = x := by omega
      have HB := Lib.hid (And.intro hB1 (And.intro hrg1 (And.intro hrg hd)))
      clear hB1 hrg1 hrg hB hd hs1 hg1
      by_cases hneg : rd P x < 0
      · go_wp2_with fail
        go_ret
        exact ⟨true, rfl, ⟨fun _ => ⟨x, hqx, hneg⟩, fun _ => rfl⟩, HB.out.1⟩
      · go_wp2_with fail
        refine ⟨⟨_, cnt2, HB.out.2.1, HB.out.1, fun y hy => ?_⟩, ?_⟩
        · rcases hy with hy | rfl
          · exact HB.out.2.2.2 y hy
          · omega
        · rw [HB.out.2.1.left_eq, HB.out.2.2.1.left_eq]; exact hlt
end Go.Proofs.Ytmfcefakpfbaoaa.PMatch
end
section
set_option linter.unusedVariables false
set_option linter.unusedSimpArgs false
namespace Go.Proofs.Ytmfcefakpfbaoaa.PMatch
open Go.RowKit Go.Proofs.YtmfcefakpfbaoaaW.PrintWords Go.Proofs.YtmfcefakpfbaoaaW.PrintLast Go.Proofs.YtmfcefakpfbaoaaW.PrintMore
def leI (x y : Int) : Bool := decide (x ≤ y)
theorem c_Sort {w : World} {base : Nat} {ok : Nat → Prop} {v : Value} {xs : List Int} (h : Kd.R (Kd.int .i64) 3 w base ok v xs) (hl : xs.length < 4611686018427387904) :
    Calls Try.prog 33 #[v] w fun e w' => e = .returned (.tuple #[]) ∧ Kd.R (Kd.int .i64) 3 w' base ok v (xs.mergeSort leI) ∧ w.grownBy w' v.ownBlock := by
  have hown := Kd.own_of_R (enc := Value.int .i64) (h1 := fun _ => rfl) h
  have hok := h.1
  rcases hown.2 with ⟨rfl, h0⟩ | ⟨g, cap, cur, rfl, hg, hb, h1, h2, h3, h4⟩
  · obtain rfl := List.length_eq_zero_iff.1 h0
    refine (Try.slices_Sort_int_none none 0 w).mono ?_
    rintro e w' ⟨rfl, rfl⟩
    exact ⟨rfl, by simpa using h, grown_of_below (Below.refl _ _) _⟩
  · have h4' : cur.toList.take xs.length = xs.map (Value.int .i64) := by simpa [encs] using h4
    refine (Try.slices_Sort_int g 0 cap xs w (holds_of_blockI hb h4') (Array.getElem?_eq_some_iff.1 hb).1 hl).mono ?_
    rintro e w' ⟨rfl, nn, os, rfl⟩
    have hlen : (xs.mergeSort leI).length = xs.length := List.length_mergeSort xs
    have hr := ownsRow_sortedI (n := nn) (os := os) (ss := xs) (ts := xs.mergeSort leI) hlen hg hb h1 h2 (by simpa using h3)
    refine ⟨rfl, Kd.R_of_own (enc := Value.int .i64) (h1 := fun _ => rfl) ?_ hok, grownBy_sortedI _⟩
    rw [hlen]
    exact hr
end Go.Proofs.Ytmfcefakpfbaoaa.PMatch
end
