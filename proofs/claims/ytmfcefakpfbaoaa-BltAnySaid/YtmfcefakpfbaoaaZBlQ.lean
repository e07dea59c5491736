/- Lemmas for RowBltAny. -/
import Derived.Test.YtmfcefakpfbaoaaQE
section
set_option linter.unusedVariables false
set_option linter.unusedSimpArgs false
namespace Go.Proofs.Ytmfcefakpfbaoaa.PMatch
open Go.RowKit Go.Proofs.YtmfcefakpfbaoaaW.PrintWords Go.Proofs.YtmfcefakpfbaoaaW.PrintLast Go.Proofs.YtmfcefakpfbaoaaW.PrintMore
theorem c_Contains (A0 : Option Addr) (c0 : Nat) (l : List Int) (a : Int) (w : World) (hr : Kd.C (Kd.int .i64) w A0 l.length l) (hc : l.length ≤ c0) (hl : l.length ≤ 1000000) :
    Calls Try.prog 45 #[.slice A0 l.length c0, .int .i64 a] w fun e w' => e = .returned (.bool (decide (a ∈ l))) ∧ Drawn0 w w' := by
  obtain ⟨k0, b, h1, h2⟩ := contains_ok hl a
  have e : b = decide (a ∈ l) := by
    have : (∃ j : Nat, j < l.length ∧ rd l j = a) ↔ a ∈ l := by
      rw [List.mem_iff_getElem]
      constructor
      · rintro ⟨j, hj, h⟩
        refine ⟨j, hj, ?_⟩
        rw [← h]; simp [rd, List.getD_eq_getElem?_getD, hj]
      · rintro ⟨j, hj, h⟩
        refine ⟨j, hj, ?_⟩
        rw [← h]; simp [rd, List.getD_eq_getElem?_getD, hj]
    rw [this] at h2
    cases b <;> simp at h2 <;> simp [h2]
  subst e
  exact slices_Contains_int_int.calls k0 A0 c0 l a _ w hr hc (h1 k0 (Nat.le_refl _))
def ndB (J : List (List Int)) (m : List Int) (e f : Nat) : Bool := f != e && decide (rd m f ∈ rd_L4 J e)
structure Sees (sb : Nat) (AJ : Option Addr) (cJ : Nat) (J : List (List Int)) (Am : Option Addr) (cm : Nat) (m : List Int) (W : World) : Prop where
  cell2 : W.cell? ⟨sb, 2, none⟩ = some (.slice AJ J.length cJ)
  cell3 : W.cell? ⟨sb, 3, none⟩ = some (.slice Am m.length cm)
  rowsJ : Kd.C (Kd.slice 3 (Kd.int .i64)) W AJ J.length J
  rowm : Kd.C (Kd.int .i64) W Am m.length m
  capJ : J.length ≤ cJ
  capm : m.length ≤ cm
set_option maxRecDepth 100000 in
set_option maxHeartbeats 4000000 in
theorem c_needed {sb : Nat} {AJ : Option Addr} {cJ : Nat} {J : List (List Int)} {Am : Option Addr} {cm : Nat} {m : List Int} {fn : Nat} {q1 q2 q3 : Addr} {K : List Nat → World → Prop} {e : Nat} {w : World}
    (hfn : fn = 69 ∨ fn = 70) (hlen : m.length ≤ 1000000) (he : e < J.length) (hrow : (rd_L4 J e).length ≤ 1000000)
    (hS : ∀ l W, K l W → Sees sb AJ cJ J Am cm m W) (hD : ∀ l W W', K l W → Drawn0 W W' → K l W')
    (hcb : ∀ l W k, K l W → l.length ≤ k → k < m.length → ndB J m e k = true → Calls Try.prog fn #[.int .i64 (k : Int), .pointer (some q1), .pointer (some q2), .pointer (some q3)] W fun ex W' => ex = .returned (.tuple #[]) ∧ K (l ++ [k]) W') (h0 : K [] w) :
    Calls Try.prog 68 #[.pointer (some ⟨sb, 0, none⟩), .int .i64 (e : Int), .func (.func fn) #[] #[.pointer (some q1), .pointer (some q2), .pointer (some q3)]] w fun ex w' => ex = .returned (.tuple #[]) ∧ ∃ l, K l w' ∧ l.length ≤ m.length ∧ ∀ k, k < m.length → ndB J m e k = true → k ∈ l := by
  have S0 := hS _ _ h0
  have c2 := S0.cell2
  have c3 := S0.cell3
  go_enter Try.func68, Try.ntmps68
  go_wp2_with fail
  go_loopw [13] (fun v W => ∃ j : Nat, v = .int .i64 j ∧ j ≤ m.length ∧ ∃ l, K l W ∧ l.length ≤ j ∧ ∀ k, k < j → ndB J m e k = true → k ∈ l) (fun v _ => m.length - (intOf v).toNat)
  case atStart => exact ⟨0, rfl, Nat.zero_le _, [], h0, Nat.le_refl _, fun k hk => absurd hk (Nat.not_lt_zero _)⟩
  case round =>
    obtain ⟨j, rfl, hj, l, hK, hll, hl⟩ := hrel
    have S := hS _ _ hK
    have HK := Lib.hid hK
    have HL := Lib.hid hl
    clear hK hl
    by_cases hlt : j < m.length
    · have hlt' : (j : Int) < (m.length : Int) := by omega
      have hj0 : (0 : Int) ≤ (j : Int) := by omega
      have hjs : ¬ m.length ≤ j := by omega
      obtain ⟨ad, hA, hc⟩ := Kd.at_int S.rowm (j : Int) hj0 hlt'
      obtain ⟨ad2, A2, cc2, hA2, hc2, hcc2, hC2⟩ := at_L4 S.rowsJ (e : Int) (by omega) (by omega)
      subst hA; subst hA2
      have c2' := S.cell2
      have c3' := S.cell3
      rw [Int.toNat_natCast] at hc hc2
      have he' : (e : Int) < (J.length : Int) := by omega
      have he0 : (0 : Int) ≤ (e : Int) := by omega
      by_cases hje : e = j
      · have hno : ndB J m e j = false := by simp [ndB, hje]
        subst hje
        go_wp2_with fail
        refine ⟨⟨e + 1, by rw [Int.natCast_add]; rfl, by omega, l, HK.out, by omega, fun k hk hn => ?_⟩, by simp [intOf]; omega⟩
        by_cases h : k < e
        · exact HL.out k h hn
        · obtain rfl : k = e := by omega
          rw [hno] at hn; cases hn
      · have hje' : ¬ (j : Int) = (e : Int) := by omega
        go_wp2_with fail
        refine (c_Contains _ _ _ _ _ hC2 hcc2 hrow).mono ?_
        rintro ex w1 ⟨rfl, hd⟩
        have HD := Lib.hid hd
        clear hd
        by_cases hin : rd m (j : Int) ∈ rd_L4 J (e : Int)
        · have hyes : ndB J m e j = true := by simp [ndB, hin]; omega
          rw [decide_eq_true hin]
          rcases hfn with rfl | rfl
          all_goals
          go_wp2_with fail
          refine (hcb l _ j (hD _ _ _ HK.out HD.out) hll hlt hyes).mono ?_
          rintro ex w2 ⟨rfl, hK2⟩
          have HK2 := Lib.hid hK2
          clear hK2
          go_wp2_with fail
          refine ⟨⟨j + 1, by rw [Int.natCast_add]; rfl, by omega, l ++ [j], HK2.out, by simp; omega, fun k hk hn => ?_⟩, by simp [intOf]; omega⟩
          rw [List.mem_append, List.mem_singleton]
          by_cases h : k < j
          · exact .inl (HL.out k h hn)
          · exact .inr (by omega)
        · have hno : ndB J m e j = false := by simp [ndB, hin]
          rw [decide_eq_false hin]
          go_wp2_with fail
          refine ⟨⟨j + 1, by rw [Int.natCast_add]; rfl, by omega, l, hD _ _ _ HK.out HD.out, by omega, fun k hk hn => ?_⟩, by simp [intOf]; omega⟩
          by_cases h : k < j
          · exact HL.out k h hn
          · obtain rfl : k = j := by omega
            rw [hno] at hn; cases hn
    · have hlt' : ¬ (j : Int) < (m.length : Int) := by omega
      go_wp2_with fail
      go_end0
      exact ⟨rfl, l, HK.out, by omega, fun k hk => HL.out k (by omega)⟩
end Go.Proofs.Ytmfcefakpfbaoaa.PMatch
end
