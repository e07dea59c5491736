/- Lemmas for RowBltAny. -/
import Derived.Test.YtmfcefakpfbaoaaZBlT
import Derived.Deep.OwnRows
import Derived.RegionTactic
import Derived.Laws.EntriesVeiled
import Derived.ChangeAlike
section
set_option linter.unusedVariables false
set_option linter.unusedSimpArgs false
namespace Go.Proofs.Ytmfcefakpfbaoaa.PMatch
open Go.RowKit Go.Proofs.YtmfcefakpfbaoaaW.PrintWords Go.Proofs.YtmfcefakpfbaoaaW.PrintLast Go.Proofs.YtmfcefakpfbaoaaW.PrintMore
open Blt (Part Dfs unm reachB)
theorem info43 : (Try.prog.info? 43).map (fun i => (i.zero, i.size, i.bytes)) = some (some (.slice none 0 0), 1, 24) := by kernel_rfl
structure Made (B n i : Nat) (R : Nat → List Bool) (W : World) : Prop where
  there : ∀ j, j < n → ∃ v, W.cell? ⟨B + 1, j, none⟩ = some v
  soft : ∀ j, j < n → W.frozen? ⟨B + 1, j, none⟩ = false
  rows : ∀ j, j < i → ∃ rb, B + 2 < rb ∧ rb < W.heap.size ∧ W.cell? ⟨B + 1, j, none⟩ = some (.slice (some ⟨rb, 0, none⟩) n n) ∧ RowB rb n n W (R j)
def W1 (wr : World) (B j n : Nat) (fv : Value) : World :=
  ((((wr.setCell ⟨B + 1, j, none⟩ (.slice (some ⟨wr.heap.size + 1, 0, none⟩) n n)).alloc (.cells #[.int .i64 (j : Int)] 3)).alloc (.cells (madeCells #[.bool false] n) 4)).alloc (.cells #[fv] 100)).drew
theorem W1_old {wr : World} {B j n : Nat} {fv : Value} {k : Nat} (hk : k < wr.heap.size) (hne : k ≠ B + 1) : (W1 wr B j n fv).heap[k]? = wr.heap[k]? := by
  have h0 : (wr.setCell ⟨B + 1, j, none⟩ (.slice (some ⟨wr.heap.size + 1, 0, none⟩) n n)).heap.size = wr.heap.size := by simp
  show ((((wr.setCell ⟨B + 1, j, none⟩ (.slice (some ⟨wr.heap.size + 1, 0, none⟩) n n)).alloc (.cells #[.int .i64 (j : Int)] 3)).alloc (.cells (madeCells #[.bool false] n) 4)).alloc (.cells #[fv] 100)).heap[k]? = _
  rw [Below.heap_alloc _ _ _ (by simp; omega), Below.heap_alloc _ _ _ (by simp; omega), Below.heap_alloc _ _ _ (by simp; omega), Below.heap_setCell _ _ _ _ hne]
theorem W1_at {wr : World} {B j n : Nat} {fv : Value} (hB : B + 1 < wr.heap.size) (o : Nat) :
    (W1 wr B j n fv).cell? ⟨B + 1, o, none⟩ = (wr.setCell ⟨B + 1, j, none⟩ (.slice (some ⟨wr.heap.size + 1, 0, none⟩) n n)).cell? ⟨B + 1, o, none⟩ ∧ (W1 wr B j n fv).frozen? ⟨B + 1, o, none⟩ = wr.frozen? ⟨B + 1, o, none⟩ := by
  unfold W1
  constructor
  · rw [World.cell?_drew, World.cell?_alloc_past _ _ _ (by simp; omega), World.cell?_alloc_past _ _ _ (by simp; omega), World.cell?_alloc_past _ _ _ (by simp; omega)]
  · rw [World.frozen?_drew, World.frozen?_alloc_past _ _ _ (by simp; omega), World.frozen?_alloc_past _ _ _ (by simp; omega), World.frozen?_alloc_past _ _ _ (by simp; omega), World.frozen?_setCell]
theorem W1_size {wr : World} {B j n : Nat} {fv : Value} : (W1 wr B j n fv).heap.size = wr.heap.size + 3 := by simp [W1]
theorem W1_q2 {wr : World} {B j n : Nat} {fv : Value} : (W1 wr B j n fv).cell? ⟨wr.heap.size, 0, none⟩ = some (.int .i64 (j : Int)) := by
  unfold W1
  rw [World.cell?_drew, World.cell?_alloc_past _ _ _ (by simp <;> omega), World.cell?_alloc_past _ _ _ (by simp <;> omega), World.cell?_alloc_at _ _ _ _ (by simp)]; rfl
theorem W1_q3 {wr : World} {B j n : Nat} {fv : Value} : (W1 wr B j n fv).cell? ⟨wr.heap.size + 1 + 1, 0, none⟩ = some fv := by
  unfold W1
  rw [World.cell?_drew, World.cell?_alloc_at _ _ _ _ (by simp)]; rfl
theorem W1_row {wr : World} {B j n : Nat} {fv : Value} (hn : n ≤ 1000000) : RowB (wr.heap.size + 1) n n (W1 wr B j n fv) (List.replicate n false) := by
  refine ⟨List.length_replicate, ?_⟩
  have h := own_made_of (enc := Value.bool) (d := false) ((wr.setCell ⟨B + 1, j, none⟩ (.slice (some ⟨wr.heap.size + 1, 0, none⟩) n n)).alloc (.cells #[.int .i64 (j : Int)] 3)) (wr.heap.size + 1) 4 n (by simp) (by omega)
  have e : ((wr.setCell ⟨B + 1, j, none⟩ (.slice (some ⟨wr.heap.size + 1, 0, none⟩) n n)).alloc (.cells #[.int .i64 (j : Int)] 3)).heap.size = wr.heap.size + 1 := by simp
  rw [e] at h
  have h2 := Kd.R_of_own (enc := Value.bool) (h1 := fun _ => rfl) (xs := List.replicate n false) (ok := fun k => k = wr.heap.size + 1) (by rw [List.length_replicate]; exact h) (fun k hk => by simp [Value.ownBlock] at hk; exact hk.symm)
  rw [List.length_replicate]
  exact Kd.R_drew (Kd.R_alloc h2 _)
theorem W1_below {w wr : World} {j n : Nat} {fv : Value} (h : Below w.heap.size w wr) : Below w.heap.size w (W1 wr w.heap.size j n fv) := by
  have h1 := h.setCell (p := ⟨w.heap.size + 1, j, none⟩) (Nat.le_succ _) (.slice (some ⟨wr.heap.size + 1, 0, none⟩) n n)
  exact below_drew (((h1.alloc h1.size _).alloc (h1.alloc h1.size _).size _).alloc ((h1.alloc h1.size _).alloc (h1.alloc h1.size _).size _).size _)
theorem Made.round {B n j : Nat} {R : Nat → List Bool} {wr W' : World} {fv : Value} (h : Made B n j R wr) (hj : j < n) (hB : B + 2 < wr.heap.size) (hg : (W1 wr B j n fv).grownBy W' (some (wr.heap.size + 1))) (hr : RowB (wr.heap.size + 1) n n W' (R j)) : Made B n (j + 1) R W' := by
  have hs : W'.heap.size ≥ wr.heap.size + 3 := by have := hg.size; rw [W1_size] at this; exact this
  have hat : ∀ o, W'.cell? ⟨B + 1, o, none⟩ = (wr.setCell ⟨B + 1, j, none⟩ (.slice (some ⟨wr.heap.size + 1, 0, none⟩) n n)).cell? ⟨B + 1, o, none⟩ := fun o =>
    (World.cell?_of_block (w := W1 wr B j n fv) (hg.block (B + 1) (by rw [W1_size]; omega) (by simp; omega))).trans (W1_at (by omega) o).1
  have hfr : ∀ o, W'.frozen? ⟨B + 1, o, none⟩ = wr.frozen? ⟨B + 1, o, none⟩ := fun o =>
    (World.frozen?_of_block (w := W1 wr B j n fv) (hg.block (B + 1) (by rw [W1_size]; omega) (by simp; omega))).trans (W1_at (by omega) o).2
  obtain ⟨v0, hv0⟩ := h.there j hj
  have hsame := World.cell?_setCell_same wr ⟨B + 1, j, none⟩ (.slice (some ⟨wr.heap.size + 1, 0, none⟩) n n) hv0
  have hoth : ∀ o, o ≠ j → (wr.setCell ⟨B + 1, j, none⟩ (.slice (some ⟨wr.heap.size + 1, 0, none⟩) n n)).cell? ⟨B + 1, o, none⟩ = wr.cell? ⟨B + 1, o, none⟩ := fun o ho =>
    World.cell?_setCell_other _ _ _ _ (by intro e; injection e with _ e _; exact ho e.symm)
  refine ⟨fun o ho => ?_, fun o ho => by rw [hfr]; exact h.soft o ho, fun o ho => ?_⟩
  · rw [hat]
    by_cases e : o = j
    · subst e; exact ⟨_, hsame⟩
    · rw [hoth o e]; exact h.there o ho
  · by_cases e : o = j
    · subst e
      exact ⟨wr.heap.size + 1, by omega, by omega, by rw [hat]; exact hsame, hr⟩
    · obtain ⟨rb, h1, h2, h3, h4, h5⟩ := h.rows o (by omega)
      refine ⟨rb, h1, by omega, by rw [hat, hoth o e]; exact h3, h4, Kd.R_step h5 (fun k hk _ => ?_)⟩
      subst hk
      rw [hg.block k (by rw [W1_size]; omega) (by simp; omega), W1_old (by omega) (by omega)]
theorem Made.reads {B n : Nat} {R : Nat → List Bool} {W : World} (h : Made B n n R W) (hn : n ≤ 1000000) : Kd.C (Kd.slice 4 Kd.bool) W (some ⟨B + 1, 0, none⟩) n ((List.range n).map R) := by
  refine ⟨by simp, by omega, fun _ => ⟨⟨B + 1, 0, none⟩, rfl, fun j p hj => ?_⟩⟩
  obtain ⟨hjl, hp⟩ := List.getElem?_eq_some_iff.1 hj
  have hjn : j < n := by simpa using hjl
  obtain rfl : R j = p := by simpa using hp
  obtain ⟨rb, _, _, h3, h4, h5⟩ := h.rows j hjn
  have h6 := Kd.R_reads' h5
  refine ⟨[.slice (some ⟨rb, 0, none⟩) n n], rfl, ⟨some ⟨rb, 0, none⟩, n, by rw [h4], by omega, h6.2.2⟩, fun i u hu => ?_⟩
  match i, hu with
  | 0, hu =>
    obtain rfl := Option.some.inj hu
    show W.cell? ((⟨B + 1, 0, none⟩ : Addr).add (j * 1 + 0)) = _
    rw [Nat.mul_one, Nat.add_zero, add_plain]
    exact h3
section
variable {n sb : Nat} {AE : Option Addr} {cE : Nat} {AJ : Option Addr} {cJ : Nat} {J : List (List Int)} {Am : Option Addr} {cm : Nat} {m : List Int}
set_option maxRecDepth 100000 in
set_option maxHeartbeats 4000000 in
theorem c_closed {w : World} (hS : Sees sb AJ cJ J Am cm m w) (c0 : w.cell? ⟨sb, 0, none⟩ = some (.slice AE n cE)) (hJ : J.length = n) (hm : m.length = n) (hn : n ≤ 1000000) (hrows : ∀ e, e < n → (rd_L4 J e).length ≤ 1000000) :
    Calls Try.prog 47 #[.pointer (some ⟨sb, 0, none⟩)] w fun ex w' => ex = .returned (.slice (some ⟨w.heap.size + 1, 0, none⟩) n n) ∧ Made w.heap.size n n (reachB n (ndB J m)) w' ∧ Below w.heap.size w w' := by
  have hs := Lib.hid hS
  clear hS
  have mk81 := run_make_row' (P := Try.prog) 81 43 (.slice none 0 0) 24 Try.underlying81 info43 rfl .i64 .i64 n (by omega) (by omega)
  have mk43 := run_make_row' (P := Try.prog) 43 4 (.bool false) 1 Try.underlying43 info4 rfl .i64 .i64 n (by omega) (by omega)
  have hsb : sb < w.heap.size := World.block_lt_of_cell? w _ c0
  have hsb' : ¬ sb = w.heap.size := by omega
  have c0' : ∀ o, (w.alloc o).cell? ⟨sb, 0, none⟩ = some (.slice AE n cE) := fun o => pw_cell_below (below_alloc (Below.refl _ _) o) c0
  go_enter Try.func47, Try.ntmps47
  go_wp2_with fail
  go_loopw [17] (fun v W => ∃ j : Nat, v = .int .i64 j ∧ j ≤ n ∧ Below w.heap.size w W ∧ W.cell? ⟨w.heap.size, 0, none⟩ = some (.pointer (some ⟨sb, 0, none⟩)) ∧ W.cell? ⟨w.heap.size + 1 + 1, 0, none⟩ = some (.slice (some ⟨w.heap.size + 1, 0, none⟩) n n) ∧ Made w.heap.size n j (reachB n (ndB J m)) W) (fun v _ => n - (intOf v).toNat)
  case atStart =>
    have b1 := (Below.refl w.heap.size w).alloc (Nat.le_refl _) (.cells #[.pointer (some ⟨sb, 0, none⟩)] 62)
    have b2 := b1.alloc b1.size (.cells (madeCells #[.slice none 0 0] n) 43)
    have b3 := b2.alloc b2.size (.cells #[.slice (some ⟨w.heap.size + 1, 0, none⟩) n n] 81)
    refine ⟨0, rfl, Nat.zero_le _, b3, ?_, ?_, fun j hj => ⟨.slice none 0 0, ?_⟩, fun j hj => ?_, fun j hj => absurd hj (Nat.not_lt_zero _)⟩
    · rw [World.cell?_alloc_past _ _ _ (by simp <;> omega), World.cell?_alloc_past _ _ _ (by simp <;> omega), World.cell?_alloc_at _ _ _ _ (by simp)]; rfl
    · rw [World.cell?_alloc_at _ _ _ _ (by simp)]; rfl
    · rw [World.cell?_alloc_past _ _ _ (by simp <;> omega), World.cell?_alloc_at _ _ _ _ (by simp)]
      simp [madeCells, hj, Nat.mod_one]
    · rw [World.frozen?_alloc_past _ _ _ (by simp <;> omega), World.frozen?_alloc_at _ _ _ _ (by simp)]
  case round =>
    obtain ⟨j, rfl, hj, hB, h1, h2, hM⟩ := hrel
    have HB := Lib.hid hB
    have HM := Lib.hid hM
    clear hB hM
    by_cases hlt : j < n
    · have hlt' : (j : Int) < (n : Int) := by omega
      have hj0 : (0 : Int) ≤ (j : Int) := by omega
      obtain ⟨v0, hv0⟩ := HM.out.there j hlt
      have hf0 := HM.out.soft j hlt
      have hs2 : w.heap.size + 1 + 1 < wr.heap.size := World.block_lt_of_cell? wr _ h2
      have hs1 : w.heap.size + 1 < wr.heap.size := by omega
      have hs0 : w.heap.size < wr.heap.size := by omega
      go_wp2_with fail
      go_region
      go_wp2_with fail
      have hE : Env n j sb (w.heap.size + 1) n (wr.heap.size + 1) n ⟨w.heap.size, 0, none⟩ ⟨w.heap.size + 1 + 1, 0, none⟩ ⟨wr.heap.size, 0, none⟩ ⟨wr.heap.size + 1 + 1, 0, none⟩ AJ cJ J Am cm m w
          (W1 wr w.heap.size j n (.func (.func 67) #[] #[.pointer (some ⟨w.heap.size, 0, none⟩), .pointer (some ⟨w.heap.size + 1 + 1, 0, none⟩), .pointer (some ⟨wr.heap.size, 0, none⟩), .pointer (some ⟨wr.heap.size + 1 + 1, 0, none⟩)])) :=
        { bel := W1_below HB.out
          sees := hs.out
          new := by omega
          c1 := (World.cell?_of_block (W1_old (by exact hs0) (by simp))).trans h1
          d1 := (World.cell?_of_block (W1_old (by exact hs2) (by simp))).trans h2
          d2 := W1_q2
          d3 := W1_q3
          co := ((W1_at hs1 j).1).trans (World.cell?_setCell_same _ _ _ hv0)
          np := by simp; omega
          n1 := by simp; omega
          n2 := by simp
          n3 := by simp
          no := by omega
          hi := hlt
          hJ := hJ
          hm := hm
          hn := hn
          hrows := hrows }
      refine (c_search (unm (List.replicate n false) + 1) j (List.replicate n false) _ hE (W1_row hn) hlt (Nat.lt_succ_self _)).mono ?_
      rintro ex w2 ⟨rfl, S', hg, hr, hd⟩
      obtain rfl := hd.reach hlt
      have hM2 := HM.out.round hlt hs2 hg hr
      have hB2 : Below w.heap.size w w2 := (W1_below HB.out).grown hg (W1_below HB.out).size (fun k hk => by cases hk; omega)
      have h12 := cell_grown hE.c1 hg (by simp; omega)
      have h22 := cell_grown hE.d1 hg (by simp; omega)
      have HX := Lib.hid (And.intro hM2 (And.intro hB2 (And.intro h12 h22)))
      clear hM2 hB2 h12 h22 hE hg hr hd
      go_wp2_with fail
      exact ⟨⟨j + 1, by rw [Int.natCast_add]; rfl, by omega, HX.out.2.1, HX.out.2.2.1, HX.out.2.2.2, HX.out.1⟩, by simp [intOf]; omega⟩
    · have hlt' : ¬ (j : Int) < (n : Int) := by omega
      go_wp2_with fail
      obtain rfl : j = n := by omega
      go_ret
      exact ⟨rfl, HM.out, HB.out⟩
end
end Go.Proofs.Ytmfcefakpfbaoaa.PMatch
end
