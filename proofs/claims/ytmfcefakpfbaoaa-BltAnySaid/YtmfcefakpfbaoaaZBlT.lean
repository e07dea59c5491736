/- Lemmas for RowBltAny. -/
import Derived.Test.YtmfcefakpfbaoaaZBlQ
import Derived.Test.YtmfcefakpfbaoaaQB
section
set_option linter.unusedVariables false
set_option linter.unusedSimpArgs false
namespace Go.Proofs.Ytmfcefakpfbaoaa.PMatch
open Go.RowKit Go.Proofs.YtmfcefakpfbaoaaW.PrintWords Go.Proofs.YtmfcefakpfbaoaaW.PrintLast Go.Proofs.YtmfcefakpfbaoaaW.PrintMore
open Blt (Part Dfs unm)
structure Env (n i sb ob cb rb cr : Nat) (p1 q1 q2 q3 : Addr) (AJ : Option Addr) (cJ : Nat) (J : List (List Int)) (Am : Option Addr) (cm : Nat) (m : List Int) (w0 W : World) : Prop where
  bel : Below w0.heap.size w0 W
  sees : Sees sb AJ cJ J Am cm m w0
  new : w0.heap.size ≤ rb
  c1 : W.cell? p1 = some (.pointer (some ⟨sb, 0, none⟩))
  d1 : W.cell? q1 = some (.slice (some ⟨ob, 0, none⟩) n cb)
  d2 : W.cell? q2 = some (.int .i64 (i : Int))
  d3 : W.cell? q3 = some (.func (.func 67) #[] #[.pointer (some p1), .pointer (some q1), .pointer (some q2), .pointer (some q3)])
  co : W.cell? ⟨ob, i, none⟩ = some (.slice (some ⟨rb, 0, none⟩) n cr)
  np : p1.block ≠ rb
  n1 : q1.block ≠ rb
  n2 : q2.block ≠ rb
  n3 : q3.block ≠ rb
  no : ob ≠ rb
  hi : i < n
  hJ : J.length = n
  hm : m.length = n
  hn : n ≤ 1000000
  hrows : ∀ e, e < n → (rd_L4 J e).length ≤ 1000000
theorem cell_grown {W W' : World} {rb : Nat} {a : Addr} {v : Value} (h : W.cell? a = some v) (hg : W.grownBy W' (some rb)) (hne : a.block ≠ rb) : W'.cell? a = some v :=
  (World.cell?_of_block (w := W) (hg.block a.block (World.block_lt_of_cell? W a h) (by simpa using hne))).trans h
section
variable {n i sb ob cb rb cr : Nat} {p1 q1 q2 q3 : Addr} {AJ : Option Addr} {cJ : Nat} {J : List (List Int)} {Am : Option Addr} {cm : Nat} {m : List Int} {w0 W W' : World}
theorem Env.grown (h : Env n i sb ob cb rb cr p1 q1 q2 q3 AJ cJ J Am cm m w0 W) (hg : W.grownBy W' (some rb)) : Env n i sb ob cb rb cr p1 q1 q2 q3 AJ cJ J Am cm m w0 W' :=
  { h with
    bel := h.bel.grown hg h.bel.size (fun k hk => by cases hk; exact h.new)
    c1 := cell_grown h.c1 hg h.np
    d1 := cell_grown h.d1 hg h.n1
    d2 := cell_grown h.d2 hg h.n2
    d3 := cell_grown h.d3 hg h.n3
    co := cell_grown h.co hg h.no }
theorem Sees.below (h : Sees sb AJ cJ J Am cm m W) (hb : Below W.heap.size W W') : Sees sb AJ cJ J Am cm m W' :=
  ⟨pw_cell_below hb h.cell2, pw_cell_below hb h.cell3, Kd.C_below h.rowsJ hb, Kd.C_below h.rowm hb, h.capJ, h.capm⟩
theorem Env.see (h : Env n i sb ob cb rb cr p1 q1 q2 q3 AJ cJ J Am cm m w0 W) : Sees sb AJ cJ J Am cm m W := h.sees.below h.bel
theorem Drawn0.grownBy {row : Option Nat} (h : Drawn0 W W') : W.grownBy W' row := grown_of_below h.below row
abbrev RowB (rb cr n : Nat) (W : World) (S : List Bool) : Prop := S.length = n ∧ Kd.R Kd.bool 4 W rb (fun k => k = rb) (.slice (some ⟨rb, 0, none⟩) S.length cr) S
theorem RowB.drawn {S : List Bool} (h : RowB rb cr n W S) (hd : Drawn0 W W') : RowB rb cr n W' S := ⟨h.1, Kd.R_below h.2 hd.below⟩
set_option maxRecDepth 100000 in
set_option maxHeartbeats 4000000 in
theorem c_mark {d k : Nat} {S : List Bool} (he : Env n i sb ob cb rb cr p1 q1 q2 q3 AJ cJ J Am cm m w0 W) (hr : RowB rb cr n W S) (hk : k < n) (hd : unm S ≤ d)
    (ih : ∀ (f : Nat) (S : List Bool) (W : World), Env n i sb ob cb rb cr p1 q1 q2 q3 AJ cJ J Am cm m w0 W → RowB rb cr n W S → f < n → unm S < d →
      Calls Try.prog 67 #[.int .i64 (f : Int), .pointer (some p1), .pointer (some q1), .pointer (some q2), .pointer (some q3)] W fun ex W' => ex = .returned (.tuple #[]) ∧ ∃ S', W.grownBy W' (some rb) ∧ RowB rb cr n W' S' ∧ Dfs n (ndB J m) f S S') :
    Calls Try.prog 69 #[.int .i64 (k : Int), .pointer (some q1), .pointer (some q2), .pointer (some q3)] W fun ex W' => ex = .returned (.tuple #[]) ∧
      ∃ S', W.grownBy W' (some rb) ∧ RowB rb cr n W' S' ∧ (S.getD k false = true ∧ S' = S ∨ S.getD k false = false ∧ Dfs n (ndB J m) k (S.set k true) S') := by
  have hc := Kd.R_cell (enc := Value.bool) (h1 := fun _ => rfl) false hr.2 (k : Int) (by omega) (by rw [hr.1]; omega)
  have hp := Kd.R_put (enc := Value.bool) (h1 := fun _ => rfl) hr.2 (k : Int) true
  rw [Int.toNat_natCast] at hc hp
  have hE2 := he.grown hp.2
  obtain ⟨hc1, hc2⟩ := hc
  have HP := Lib.hid hp
  clear hp
  have d1 := he.d1
  have d2 := he.d2
  have d3 := he.d3
  have co := he.co
  have d3' := hE2.d3
  have hi := he.hi
  have hi0 : (0 : Int) ≤ (i : Int) := by omega
  have hi1 : (i : Int) < (n : Int) := by omega
  have hk0 : (0 : Int) ≤ (k : Int) := by omega
  have hk1 : (k : Int) < (n : Int) := by omega
  have hrd : rdOf false S (k : Int) = S.getD k false := by rw [rdOf, Int.toNat_natCast]
  rw [hrd] at hc1
  have HE := Lib.hid he
  have HE2 := Lib.hid hE2
  have HR := Lib.hid hr
  clear he hE2 hr
  have hlen : S.length = n := HR.out.1
  have hku : k < S.length := by rw [hlen]; exact hk
  cases hs : S.getD k false
  · rw [hs] at hc1
    have hu := Lib.hid (Blt.unm_set hku hs)
    go_enter Try.func69, Try.ntmps69
    go_wp2_with fail
    have hR2 : RowB rb cr n (W.setCell ⟨rb, k, none⟩ (.bool true)) (S.set k true) := ⟨by rw [List.length_set]; exact hlen, by have := HP.out.1; rw [List.length_set]; exact this⟩
    refine (ih k (S.set k true) _ HE2.out hR2 hk (by have := hu.out; omega)).mono ?_
    rintro ex w1 ⟨rfl, S', hg, hr', hdfs⟩
    have HX := Lib.hid (And.intro hg (And.intro hr' hdfs))
    clear hg hr' hdfs hR2
    go_wp2_with fail
    first | go_end0 | skip
    exact ⟨rfl, S', HP.out.2.trans HX.out.1, HX.out.2.1, .inr ⟨by first | rfl | trivial, HX.out.2.2⟩⟩
  · rw [hs] at hc1
    go_enter Try.func69, Try.ntmps69
    go_wp2_with fail
    first | go_end0 | skip
    exact ⟨rfl, S, grown_of_below (Below.refl _ _) _, HR.out, .inl ⟨by first | rfl | trivial, rfl⟩⟩
set_option maxRecDepth 100000 in
set_option maxHeartbeats 4000000 in
theorem c_search (d : Nat) : ∀ (f : Nat) (S : List Bool) (W : World), Env n i sb ob cb rb cr p1 q1 q2 q3 AJ cJ J Am cm m w0 W → RowB rb cr n W S → f < n → unm S < d →
    Calls Try.prog 67 #[.int .i64 (f : Int), .pointer (some p1), .pointer (some q1), .pointer (some q2), .pointer (some q3)] W fun ex W' => ex = .returned (.tuple #[]) ∧ ∃ S', W.grownBy W' (some rb) ∧ RowB rb cr n W' S' ∧ Dfs n (ndB J m) f S S' := by
  induction d with
  | zero => exact fun _ _ _ _ _ _ hd => absurd hd (Nat.not_lt_zero _)
  | succ d ih0 =>
    intro f S W he hr hf hd
    have ih := Lib.hid ih0
    clear ih0
    have c1 := he.c1
    have HE := Lib.hid he
    have HR := Lib.hid hr
    clear he hr
    go_enter Try.func67, Try.ntmps67
    go_wp2_with fail
    refine (c_needed (AJ := AJ) (cJ := cJ) (Am := Am) (cm := cm) (K := fun l W1 => ∃ S', W.grownBy W1 (some rb) ∧ RowB rb cr n W1 S' ∧ Part n (ndB J m) f l S S') (.inl rfl) (by rw [HE.out.hm]; exact HE.out.hn) (by rw [HE.out.hJ]; exact hf) (HE.out.hrows f hf) ?_ ?_ ?_ ?_).mono ?_
    · rintro l W1 ⟨S', hg, _, _⟩
      exact (HE.out.grown hg).see
    · rintro l W1 W2 ⟨S', hg, hr, hp⟩ hD
      exact ⟨S', hg.trans (Drawn0.grownBy hD), hr.drawn hD, hp⟩
    · rintro l W1 k ⟨S', hg, hr, hp⟩ _ hk hnd
      rw [HE.out.hm] at hk
      refine (c_mark (d := d) (HE.out.grown hg) hr hk (by have := hp.cnt; omega) ih.out).mono ?_
      rintro ex W2 ⟨rfl, S'', hg2, hr2, h⟩
      refine ⟨rfl, S'', hg.trans hg2, hr2, ?_⟩
      rcases h with ⟨h1, rfl⟩ | ⟨h1, h2⟩
      · exact hp.old h1
      · exact hp.step hf hk h1 hnd h2
    · exact ⟨S, grown_of_below (Below.refl _ _) _, HR.out, Part.start HR.out.1⟩
    · rintro ex W1 ⟨rfl, l, ⟨S', hg, hr, hp⟩, _, hl⟩
      rw [HE.out.hm] at hl
      have HX := Lib.hid (And.intro hg (And.intro hr (hp.done hl)))
      clear hg hr hp hl
      go_wp2_with fail
      first | go_end0 | skip
      exact ⟨rfl, S', HX.out⟩
end
end Go.Proofs.Ytmfcefakpfbaoaa.PMatch
end
