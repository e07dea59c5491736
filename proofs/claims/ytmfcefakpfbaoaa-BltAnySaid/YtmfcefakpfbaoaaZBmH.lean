/- Lemmas for RowBltAny. -/
import Derived.Test.YtmfcefakpfbaoaaZBmG
section
set_option linter.unusedVariables false
set_option linter.unusedSimpArgs false
namespace Go.Proofs.Ytmfcefakpfbaoaa.PMatch
open Go.RowKit Go.Proofs.YtmfcefakpfbaoaaW.PrintWords Go.Proofs.YtmfcefakpfbaoaaW.PrintLast Go.Proofs.YtmfcefakpfbaoaaW.PrintMore
theorem useB_some {a : ByteArray} {b : Int} (h : useB a b false = true) : nameB a = true ∧ 0 ≤ b ∧ b ≤ 6 := by
  unfold useB at h
  simp only [Bool.and_eq_true, decide_eq_true_eq, Bool.not_false, Bool.true_or, and_true] at h
  exact ⟨h.1.1, h.1.2, h.2⟩
theorem fit_of {a : ByteArray} {b : Int} (h : useB a b false = true) : expr_Fit.f a b false = some true := by
  obtain ⟨h1, h2, h3⟩ := useB_some h
  unfold expr_Fit.f expr_Name.f
  rw [if_pos h1]
  simp [h2, h3]
theorem cmp_less : ∀ {a b : List UInt8}, Op.bytesLess a b = true → Lib.compareBytes a b = -1
  | [], [], h => by simp [Op.bytesLess] at h
  | _ :: _, [], h => by simp [Op.bytesLess] at h
  | [], _ :: _, _ => rfl
  | a :: x, b :: y, h => by
    simp only [Op.bytesLess, Bool.or_eq_true, decide_eq_true_eq, Bool.and_eq_true, beq_iff_eq] at h
    unfold Lib.compareBytes
    rcases h with h | ⟨rfl, h⟩
    · rw [if_pos h]
    · rw [if_neg (UInt8.lt_irrefl a), if_neg (UInt8.lt_irrefl a)]
      exact cmp_less h
theorem less_of {a a' : ByteArray} {b b' : Int} (h : useB a b false = true) (h' : useB a' b' false = true) (hb : befB a b false a' b' false = true) : ∃ v, expr_Less.f 1 a b false a' b' false = some v ∧ v < 0 := by
  obtain ⟨_, h2, h3⟩ := useB_some h
  obtain ⟨_, h4, h5⟩ := useB_some h'
  unfold befB at hb
  unfold expr_Less.f
  by_cases hn : a.toList = a'.toList
  · rw [if_pos hn] at hb ⊢
    simp at hb
    refine ⟨b - b', ?_, by omega⟩
    simp [expr_Less.j0]
    unfold wrap64
    omega
  · rw [if_neg hn] at hb ⊢
    refine ⟨-1, ?_, by decide⟩
    unfold strings_Compare.f
    simp only [Option.bind_some]
    rw [ByteArray.toList_eq, ByteArray.toList_eq] at hb
    rw [cmp_less hb]
theorem row_ge {U : Nat} {l : List Int} (h : RowUp U l) : ∀ i : Nat, i < l.length → (i : Int) ≤ rd l i
  | 0, hi => by have := (h 0 hi).1; simpa using this
  | i + 1, hi => by
    have h1 := row_ge h i (by omega)
    have h2 := (h (i + 1) hi).2.2 (by omega)
    rw [show ((i + 1 : Nat) : Int) - 1 = (i : Int) by omega] at h2
    omega
theorem row_len {U : Nat} {l : List Int} (h : RowUp U l) : l.length ≤ U := by
  rcases Nat.eq_zero_or_pos l.length with h0 | h0
  · omega
  · have h1 := row_ge h (l.length - 1) (by omega)
    have h2 := (h (l.length - 1) (by omega)).2.1
    omega
theorem Good.valid {E : List ByteArray} {U : List S47} {J : List (List Int)} (h : Good E U J) (hE : E.length ≤ 120) (hU : U.length ≤ 400) : Valid E U J := by
  have hrow : ∀ i : Nat, i < J.length → RowUp U.length (rd_L4 J i) := fun i hi k hk => h.rows i hi k hk
  refine ⟨fun i hi => h.names i hi, fun i hi => ?_, h.len, fun i hi => ⟨hrow i hi, by have := row_len (hrow i hi); omega⟩, hE, hU⟩
  obtain ⟨h1, h2, h3⟩ := h.uses i hi
  rw [h2] at h1 h3 ⊢
  refine ⟨fit_of h1, rfl, fun hp => ?_⟩
  obtain ⟨h4, h5, _⟩ := h.uses (i - 1) (by omega)
  rw [show ((i - 1 : Nat) : Int) = (i : Int) - 1 by omega] at h4 h5
  have h6 := h3 hp
  rw [h5] at h4 h6 ⊢
  exact less_of h4 h1 h6
section
variable {E : List ByteArray} {U : List S47} {J : List (List Int)} {A0 : Option Addr} {c0 : Nat} {A1 : Option Addr} {c1 : Nat} {A2 : Option Addr} {c2 : Nat} {w : World}
set_option maxRecDepth 100000 in
set_option maxHeartbeats 4000000 in
theorem r_Check (h0 : Kd.C Kd.string w A0 E.length E) (h1 : Kd.C k47 w A1 U.length U) (h2 : Kd.C (Kd.slice 3 (Kd.int .i64)) w A2 J.length J) :
    Calls Try.prog 17 #[.agg #[.slice A0 E.length c0, .slice A1 U.length c1, .slice A2 J.length c2]] w fun e w' => ∃ r, e = .returned (.int .i64 r) ∧ (r = 0 → Valid E U J ∧ Good E U J) ∧ Below w.heap.size w w' := by
  have hb1 : Below w.heap.size w (w.alloc (.cells #[.slice A0 E.length c0, .slice A1 U.length c1, .slice A2 J.length c2] 26)) := (Below.refl _ _).alloc (Nat.le_refl _) _
  have hv := r_Valid (c0 := c0) (c1 := c1) (c2 := c2) (Kd.C_below h0 hb1) (Kd.C_below h1 hb1) (Kd.C_below h2 hb1)
  have HV := Lib.hid hv
  have HB := Lib.hid hb1
  have hu26 := Try.underlying26
  have hs1 : (w.alloc (.cells #[.slice A0 E.length c0, .slice A1 U.length c1, .slice A2 J.length c2] 26)).heap.size = w.heap.size + 1 := by simp
  have HS := Lib.hid hs1
  clear h0 h1 h2 hb1 hv hs1
  go_enter Try.func17, Try.ntmps17
  go_wp2_with fail
  refine HV.out.mono ?_
  rintro ex w2 ⟨b, rfl, hb, hb2⟩
  rw [HS.out] at hb2
  have g0 : w2.cell? ⟨w.heap.size, 0, none⟩ = some (.slice A0 E.length c0) := (hb2.cell (by exact Nat.lt_succ_self _)).trans (by rw [World.cell?_alloc_at _ _ _ _ rfl]; rfl)
  have g1 : w2.cell? ⟨w.heap.size, 1, none⟩ = some (.slice A1 U.length c1) := (hb2.cell (by exact Nat.lt_succ_self _)).trans (by rw [World.cell?_alloc_at _ _ _ _ rfl]; rfl)
  have HX := Lib.hid (And.intro hb (HB.out.trans (hb2.mono (Nat.le_succ _))))
  clear hb hb2
  cases b
  · go_wp2_with fail
    go_ret
    exact ⟨1, rfl, fun h => absurd h (by decide), HX.out.2⟩
  · by_cases hE : 120 < E.length
    · have hE' : (120 : Int) < (E.length : Int) := by omega
      go_wp2_with fail
      go_ret
      exact ⟨2, rfl, fun h => absurd h (by decide), HX.out.2⟩
    · have hE' : ¬ (120 : Int) < (E.length : Int) := by omega
      by_cases hU : 400 < U.length
      · have hU' : (400 : Int) < (U.length : Int) := by omega
        go_wp2_with fail
        go_ret
        exact ⟨2, rfl, fun h => absurd h (by decide), HX.out.2⟩
      · have hU' : ¬ (400 : Int) < (U.length : Int) := by omega
        go_wp2_with fail
        go_ret
        exact ⟨0, rfl, fun _ => ⟨(HX.out.1 (by first | trivial | rfl)).valid (by omega) (by omega), HX.out.1 (by first | trivial | rfl)⟩, HX.out.2⟩
def greatI (n u j : Int) : Bool := (decide (14 < n) && decide (n ≤ 120)) || (decide (14 < u) && decide (u ≤ 400)) || decide (200 < j)
set_option maxRecDepth 100000 in
set_option maxHeartbeats 4000000 in
theorem r_Great : Calls Try.prog 18 #[.agg #[.slice A0 E.length c0, .slice A1 U.length c1, .slice A2 J.length c2]] w fun e w' => e = .returned (.bool (greatI E.length U.length J.length)) ∧ Below w.heap.size w w' := by
  have hb1 : Below w.heap.size w (w.alloc (.cells #[.slice A0 E.length c0, .slice A1 U.length c1, .slice A2 J.length c2] 26)) := (Below.refl _ _).alloc (Nat.le_refl _) _
  have HB := Lib.hid hb1
  have hu26 := Try.underlying26
  clear hb1
  go_enter Try.func18, Try.ntmps18
  go_wp2_with fail
  all_goals
    go_ret
    refine ⟨?_, HB.out⟩
    refine congrArg (fun b => Ending.returned (.bool b)) ?_
    rw [Bool.eq_iff_iff]
    simp [greatI]
    omega
end
end Go.Proofs.Ytmfcefakpfbaoaa.PMatch
end
