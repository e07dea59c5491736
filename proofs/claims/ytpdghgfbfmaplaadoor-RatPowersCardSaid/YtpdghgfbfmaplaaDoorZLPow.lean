/- Lemmas and contracts for the statement RowRatPowers: merged by wip/assemble.py. -/
import Derived.Test.YtpdghgfbfmaplaaDoorZRatL
import Derived.IntWalk
section
set_option linter.unusedVariables false
set_option linter.unusedSimpArgs false
namespace Go.Proofs.YtpdghgfbfmaplaaDoor.Wh
open Go.RowKit Go.Proofs.YtpdghgfbfmaplaaDoor.Num Go.Proofs.YtpdghgfbfmaplaaDoor.Dec
section
variable {w : World}
theorem pow_add' (q : Rat) (k l : Nat) : q ^ (k + l) = q ^ k * q ^ l := by
  induction l with
  | zero => simp
  | succ l ih => rw [← Nat.add_assoc, Rat.pow_succ, Rat.pow_succ, ih]; grind
theorem powQ_nat (q : Rat) (k : Nat) : powQ q (k : Int) = q ^ k := by rw [powQ, if_neg (by omega), Int.natAbs_natCast]
theorem powQ_neg (q : Rat) (k : Nat) (h : 0 < k) : powQ q (-(k : Int)) = (q⁻¹) ^ k := by rw [powQ, if_pos (by omega), Int.natAbs_neg, Int.natAbs_natCast]
theorem pow_inv {q : Rat} (h : q ≠ 0) (k : Nat) : q ^ k * (q⁻¹) ^ k = 1 := by
  induction k with
  | zero => simp
  | succ k ih =>
    rw [Rat.pow_succ, Rat.pow_succ]
    have h1 : q * q⁻¹ = 1 := Rat.mul_inv_cancel _ h
    grind
theorem pow_sub' {q : Rat} (h : q ≠ 0) (k l : Nat) (hl : l ≤ k) : q ^ k * (q⁻¹) ^ l = q ^ (k - l) := by
  have h1 : q ^ k = q ^ (k - l) * q ^ l := by rw [← pow_add', Nat.sub_add_cancel hl]
  have h2 := pow_inv h l
  rw [h1]
  grind
theorem pow_sub2 {q : Rat} (h : q ≠ 0) (k l : Nat) (hl : k < l) : q ^ k * (q⁻¹) ^ l = (q⁻¹) ^ (l - k) := by
  have h1 : (q⁻¹) ^ l = (q⁻¹) ^ (l - k) * (q⁻¹) ^ k := by rw [← pow_add', Nat.sub_add_cancel (by omega)]
  have h2 := pow_inv h k
  rw [h1]
  grind
theorem powQ_add {q : Rat} {n m : Int} (h : q ≠ 0 ∨ 0 ≤ n ∧ 0 ≤ m) : powQ q n * powQ q m = powQ q (n + m) := by
  by_cases hn : 0 ≤ n <;> by_cases hm : 0 ≤ m
  · obtain ⟨k, rfl⟩ := Int.eq_ofNat_of_zero_le hn
    obtain ⟨l, rfl⟩ := Int.eq_ofNat_of_zero_le hm
    rw [← Int.natCast_add, powQ_nat, powQ_nat, powQ_nat, pow_add']
  · have hq : q ≠ 0 := h.resolve_right (fun h => hm h.2)
    obtain ⟨k, rfl⟩ := Int.eq_ofNat_of_zero_le hn
    obtain ⟨l, rfl⟩ : ∃ l : Nat, m = -(l : Int) := ⟨m.natAbs, by omega⟩
    rw [powQ_nat, powQ_neg _ _ (by omega)]
    by_cases hl : l ≤ k
    · rw [show (k : Int) + -(l : Int) = ((k - l : Nat) : Int) by omega, powQ_nat, pow_sub' hq _ _ hl]
    · rw [show (k : Int) + -(l : Int) = -((l - k : Nat) : Int) by omega, powQ_neg _ _ (by omega), pow_sub2 hq _ _ (by omega)]
  · have hq : q ≠ 0 := h.resolve_right (fun h => hn h.1)
    obtain ⟨l, rfl⟩ := Int.eq_ofNat_of_zero_le hm
    obtain ⟨k, rfl⟩ : ∃ l : Nat, n = -(l : Int) := ⟨n.natAbs, by omega⟩
    rw [powQ_nat, powQ_neg _ _ (by omega), Rat.mul_comm]
    by_cases hl : k ≤ l
    · rw [show -(k : Int) + (l : Int) = ((l - k : Nat) : Int) by omega, powQ_nat, pow_sub' hq _ _ hl]
    · rw [show -(k : Int) + (l : Int) = -((k - l : Nat) : Int) by omega, powQ_neg _ _ (by omega), pow_sub2 hq _ _ (by omega)]
  · obtain ⟨l, rfl⟩ : ∃ l : Nat, m = -(l : Int) := ⟨m.natAbs, by omega⟩
    obtain ⟨k, rfl⟩ : ∃ l : Nat, n = -(l : Int) := ⟨n.natAbs, by omega⟩
    rw [show -(k : Int) + -(l : Int) = -((k + l : Nat) : Int) by omega, powQ_neg _ _ (by omega), powQ_neg _ _ (by omega), powQ_neg _ _ (by omega), pow_add']
theorem pow_size (a : ByteArray) (n : Int) : (rPow a n).1.size ≤ 602 := by
  unfold rPow
  split
  · decide
  · split
    · decide
    · split
      · decide
      · exact tell_size _
theorem rpow_yes {a : ByteArray} {q : Rat} {n : Int} (h : numB a = some q) (h1 : -100 ≤ n) (h2 : n ≤ 100) : rPow a n = if n < 0 ∧ q = 0 then (nob, 12) else tellB (powQ q n) := by
  rw [rPow, h]; exact if_neg (by omega)
theorem rpow_res {a s : ByteArray} {q : Rat} {n e : Int} (h : numB a = some q) (h1 : -100 ≤ n) (h2 : n ≤ 100) (he : rPow a n = (s, e)) (h0 : e = 0) : ¬ (n < 0 ∧ q = 0) ∧ Res true s (powQ q n) := by
  rw [rpow_yes h h1 h2] at he
  by_cases hz : n < 0 ∧ q = 0
  · rw [if_pos hz] at he
    injection he with _ h3
    omega
  · rw [if_neg hz] at he
    exact ⟨hz, tell_res (by rw [he, h0]; rfl)⟩
set_option maxRecDepth 100000 in
set_option maxHeartbeats 8000000 in
theorem pow_i (a : ByteArray) (n m : Int) (ha : a.size ≤ 140737488351232) (h : rIs a = false) :
    Calls Tryd.prog 8 #[.string a, .int .i64 n, .int .i64 m] w fun e w' => e = .returned (.bool true) ∧ Below w.heap.size w w' := by
  have HA := Lib.hid ha
  clear ha
  have HI := Lib.hid h
  clear h
  go_enter Tryd.func8, Tryd.ntmps8
  go_wp2_with fail
  refine (c_rIs' a HA.out HI.out).mono ?_
  rintro e w1 ⟨rfl, hb1⟩
  go_wp2_with fail
  refine (c_alive).mono ?_
  rintro e w2 ⟨rfl, hb2⟩
  go_wp2_with fail
  go_ret
  exact ⟨rfl, blq⟩
set_option maxRecDepth 100000 in
set_option maxHeartbeats 8000000 in
theorem pow_a (a : ByteArray) (n m : Int) (ha : a.size ≤ 140737488351232) (h : rIs a = true) (h1 : n < -50) :
    Calls Tryd.prog 8 #[.string a, .int .i64 n, .int .i64 m] w fun e w' => e = .returned (.bool true) ∧ Below w.heap.size w w' := by
  have HA := Lib.hid ha
  clear ha
  have HI := Lib.hid h
  have d1 : decide (n < -50) = true := decide_eq_true h1
  clear h
  go_enter Tryd.func8, Tryd.ntmps8
  go_wp2_with fail
  refine (c_rIs' a HA.out HI.out).mono ?_
  rintro e w1 ⟨rfl, hb1⟩
  go_wp2_with fail
  refine (c_alive).mono ?_
  rintro e w2 ⟨rfl, hb2⟩
  go_wp2_with fail
  go_ret
  exact ⟨rfl, blq⟩
set_option maxRecDepth 100000 in
set_option maxHeartbeats 8000000 in
theorem pow_b (a : ByteArray) (n m : Int) (ha : a.size ≤ 140737488351232) (h : rIs a = true) (h1 : 50 < n) :
    Calls Tryd.prog 8 #[.string a, .int .i64 n, .int .i64 m] w fun e w' => e = .returned (.bool true) ∧ Below w.heap.size w w' := by
  have HA := Lib.hid ha
  clear ha
  have HI := Lib.hid h
  have d1 : decide (n < -50) = false := decide_eq_false (by omega)
  have d2 : decide (50 < n) = true := decide_eq_true h1
  clear h
  go_enter Tryd.func8, Tryd.ntmps8
  go_wp2_with fail
  refine (c_rIs' a HA.out HI.out).mono ?_
  rintro e w1 ⟨rfl, hb1⟩
  go_wp2_with fail
  refine (c_alive).mono ?_
  rintro e w2 ⟨rfl, hb2⟩
  go_wp2_with fail
  go_ret
  exact ⟨rfl, blq⟩
set_option maxRecDepth 100000 in
set_option maxHeartbeats 8000000 in
theorem pow_c (a : ByteArray) (n m : Int) (ha : a.size ≤ 140737488351232) (h : rIs a = true) (h1 : -50 ≤ n) (h2 : n ≤ 50) (h3 : m < -50) :
    Calls Tryd.prog 8 #[.string a, .int .i64 n, .int .i64 m] w fun e w' => e = .returned (.bool true) ∧ Below w.heap.size w w' := by
  have HA := Lib.hid ha
  clear ha
  have HI := Lib.hid h
  have d1 : decide (n < -50) = false := decide_eq_false (by omega)
  have d2 : decide (50 < n) = false := decide_eq_false (by omega)
  have d3 : decide (m < -50) = true := decide_eq_true h3
  clear h
  go_enter Tryd.func8, Tryd.ntmps8
  go_wp2_with fail
  refine (c_rIs' a HA.out HI.out).mono ?_
  rintro e w1 ⟨rfl, hb1⟩
  go_wp2_with fail
  refine (c_alive).mono ?_
  rintro e w2 ⟨rfl, hb2⟩
  go_wp2_with fail
  go_ret
  exact ⟨rfl, blq⟩
set_option maxRecDepth 100000 in
set_option maxHeartbeats 8000000 in
theorem pow_d (a : ByteArray) (n m : Int) (ha : a.size ≤ 140737488351232) (h : rIs a = true) (h1 : -50 ≤ n) (h2 : n ≤ 50) (h3 : 50 < m) :
    Calls Tryd.prog 8 #[.string a, .int .i64 n, .int .i64 m] w fun e w' => e = .returned (.bool true) ∧ Below w.heap.size w w' := by
  have HA := Lib.hid ha
  clear ha
  have HI := Lib.hid h
  have d1 : decide (n < -50) = false := decide_eq_false (by omega)
  have d2 : decide (50 < n) = false := decide_eq_false (by omega)
  have d3 : decide (m < -50) = false := decide_eq_false (by omega)
  have d4 : decide (50 < m) = true := decide_eq_true h3
  clear h
  go_enter Tryd.func8, Tryd.ntmps8
  go_wp2_with fail
  refine (c_rIs' a HA.out HI.out).mono ?_
  rintro e w1 ⟨rfl, hb1⟩
  go_wp2_with fail
  refine (c_alive).mono ?_
  rintro e w2 ⟨rfl, hb2⟩
  go_wp2_with fail
  go_ret
  exact ⟨rfl, blq⟩
set_option maxRecDepth 100000 in
set_option maxHeartbeats 8000000 in
theorem pow_ez (a : ByteArray) (n m : Int) {q : Rat} (na : numB a = some q) (h1 : -50 ≤ n) (h2 : n ≤ 50) (h3 : -50 ≤ m) (h4 : m ≤ 50) {p r s : ByteArray} {e f g : Int} (e1 : rPow a n = (p, e)) (e2 : rPow a m = (r, f)) (e3 : rPow a (n + m) = (s, g)) (hz : (a.toList == [48]) = true) (he : ¬ e = 0) :
    Calls Tryd.prog 8 #[.string a, .int .i64 n, .int .i64 m] w fun e w' => e = .returned (.bool true) ∧ Below w.heap.size w w' := by
  have ha : a.size ≤ 140737488351232 := by have := num_size na; omega
  have HA := Lib.hid ha
  have HI := Lib.hid (show rIs a = true by rw [rIs, na]; rfl)
  have d1 : decide (n < -50) = false := decide_eq_false (by omega)
  have d2 : decide (50 < n) = false := decide_eq_false (by omega)
  have d3 : decide (m < -50) = false := decide_eq_false (by omega)
  have d4 : decide (50 < m) = false := decide_eq_false (by omega)
  have wnm : IntKind.i64.wrap (n + m) = n + m := IntWalk.i64_in _ ⟨by omega, by omega⟩
  have HC1 := Lib.hid (fun (W : World) => c_named (w := W) e1 (c_rPow a n ha))
  have HC2 := Lib.hid (fun (W : World) => c_named (w := W) e2 (c_rPow a m ha))
  have HC3 := Lib.hid (fun (W : World) => c_named (w := W) e3 (c_rPow a (n + m) ha))
  have hp1 : rPow a 1 = (a, 0) := by
    rw [rpow_yes na (by omega) (by omega), if_neg (by omega), show powQ q 1 = q from by rw [show (1 : Int) = ((1 : Nat) : Int) from rfl, powQ_nat]; grind]
    have h := numB_some.1 na
    rw [tellB, if_pos h.2, ← h.1]
  have hp0 : rPow a 0 = (⟨#[49]⟩, 0) := by
    rw [rpow_yes na (by omega) (by omega), if_neg (by omega), show powQ q 0 = 1 from by rw [show (0 : Int) = ((0 : Nat) : Int) from rfl, powQ_nat]; grind]
    exact (si 1 [49] (by decide +kernel)).2
  have HC4 := Lib.hid (fun (W : World) => c_named (w := W) hp1 (c_rPow a 1 ha))
  have HC5 := Lib.hid (fun (W : World) => c_named (w := W) hp0 (c_rPow a 0 ha))
  have HF := Lib.hid (show (e == 12) = ((a.toList == [48]) && decide (n < 0)) from by
    have h1 := rpow_yes na (n := n) (by omega) (by omega)
    rw [e1] at h1
    have h0 : (a.toList == [48]) = decide (q = 0) := by
      rw [ByteArray.toList_eq]
      by_cases hq : q = 0
      · rw [decide_eq_true hq, beq_iff_eq, (numB_some.1 na).1, hq, strF_zero]
      · rw [decide_eq_false hq, beq_eq_false_iff_ne]
        intro h
        have h3 := bs_of h
        rw [h3, show bsOf [48] = ⟨#[48]⟩ from rfl, ← strF_zero, numB_str (short_small (by decide) (by decide))] at na
        exact hq (Option.some.inj na).symm
    rw [h0]
    by_cases hz : n < 0 ∧ q = 0
    · rw [if_pos hz] at h1
      injection h1 with _ h2
      rw [h2, decide_eq_true hz.1, decide_eq_true hz.2]; rfl
    · rw [if_neg hz] at h1
      have h2 : e = (tellB (powQ q n)).2 := congrArg Prod.snd h1
      have h3 : ¬ e = 12 := by
        rw [h2]; unfold tellB; split
        · show ¬ (0 : Int) = 12; decide
        · show ¬ (2 : Int) = 12; decide
      rw [show (e == 12) = false by simpa using h3]
      by_cases hn : n < 0
      · rw [decide_eq_true hn, decide_eq_false (fun h => hz ⟨hn, h⟩)]; rfl
      · rw [decide_eq_false hn, Bool.and_false])
  have hf := HF.out
  rw [hz] at hf
  simp only [Bool.true_and] at hf
  have b1 : (e == 0) = false := by simpa using he
  clear he
  clear e1 e2 e3 na ha hp1 hp0
  go_enter Tryd.func8, Tryd.ntmps8
  go_wp2_with fail
  refine (c_rIs' a HA.out HI.out).mono ?_
  rintro e w1 ⟨rfl, hb1⟩
  go_wp2_with fail
  refine (HC1.out _).mono ?_
  rintro e w2 ⟨rfl, hb2⟩
  go_wp2_with fail
  refine (HC2.out _).mono ?_
  rintro e w3 ⟨rfl, hb3⟩
  go_wp2_with fail
  refine (HC3.out _).mono ?_
  rintro e w4 ⟨rfl, hb4⟩
  go_wp2_with fail
  refine (HC4.out _).mono ?_
  rintro e w5 ⟨rfl, hb5⟩
  go_wp2_with fail
  refine (HC5.out _).mono ?_
  rintro e w6 ⟨rfl, hb6⟩
  go_wp2_with fail
  refine (c_alive).mono ?_
  rintro e w7 ⟨rfl, hb7⟩
  go_wp2_with fail
  go_ret
  exact ⟨rfl, blq⟩
set_option maxRecDepth 100000 in
set_option maxHeartbeats 8000000 in
theorem pow_en (a : ByteArray) (n m : Int) {q : Rat} (na : numB a = some q) (h1 : -50 ≤ n) (h2 : n ≤ 50) (h3 : -50 ≤ m) (h4 : m ≤ 50) {p r s : ByteArray} {e f g : Int} (e1 : rPow a n = (p, e)) (e2 : rPow a m = (r, f)) (e3 : rPow a (n + m) = (s, g)) (hz : (a.toList == [48]) = false) (he : ¬ e = 0) :
    Calls Tryd.prog 8 #[.string a, .int .i64 n, .int .i64 m] w fun e w' => e = .returned (.bool true) ∧ Below w.heap.size w w' := by
  have ha : a.size ≤ 140737488351232 := by have := num_size na; omega
  have HA := Lib.hid ha
  have HI := Lib.hid (show rIs a = true by rw [rIs, na]; rfl)
  have d1 : decide (n < -50) = false := decide_eq_false (by omega)
  have d2 : decide (50 < n) = false := decide_eq_false (by omega)
  have d3 : decide (m < -50) = false := decide_eq_false (by omega)
  have d4 : decide (50 < m) = false := decide_eq_false (by omega)
  have wnm : IntKind.i64.wrap (n + m) = n + m := IntWalk.i64_in _ ⟨by omega, by omega⟩
  have HC1 := Lib.hid (fun (W : World) => c_named (w := W) e1 (c_rPow a n ha))
  have HC2 := Lib.hid (fun (W : World) => c_named (w := W) e2 (c_rPow a m ha))
  have HC3 := Lib.hid (fun (W : World) => c_named (w := W) e3 (c_rPow a (n + m) ha))
  have hp1 : rPow a 1 = (a, 0) := by
    rw [rpow_yes na (by omega) (by omega), if_neg (by omega), show powQ q 1 = q from by rw [show (1 : Int) = ((1 : Nat) : Int) from rfl, powQ_nat]; grind]
    have h := numB_some.1 na
    rw [tellB, if_pos h.2, ← h.1]
  have hp0 : rPow a 0 = (⟨#[49]⟩, 0) := by
    rw [rpow_yes na (by omega) (by omega), if_neg (by omega), show powQ q 0 = 1 from by rw [show (0 : Int) = ((0 : Nat) : Int) from rfl, powQ_nat]; grind]
    exact (si 1 [49] (by decide +kernel)).2
  have HC4 := Lib.hid (fun (W : World) => c_named (w := W) hp1 (c_rPow a 1 ha))
  have HC5 := Lib.hid (fun (W : World) => c_named (w := W) hp0 (c_rPow a 0 ha))
  have HF := Lib.hid (show (e == 12) = ((a.toList == [48]) && decide (n < 0)) from by
    have h1 := rpow_yes na (n := n) (by omega) (by omega)
    rw [e1] at h1
    have h0 : (a.toList == [48]) = decide (q = 0) := by
      rw [ByteArray.toList_eq]
      by_cases hq : q = 0
      · rw [decide_eq_true hq, beq_iff_eq, (numB_some.1 na).1, hq, strF_zero]
      · rw [decide_eq_false hq, beq_eq_false_iff_ne]
        intro h
        have h3 := bs_of h
        rw [h3, show bsOf [48] = ⟨#[48]⟩ from rfl, ← strF_zero, numB_str (short_small (by decide) (by decide))] at na
        exact hq (Option.some.inj na).symm
    rw [h0]
    by_cases hz : n < 0 ∧ q = 0
    · rw [if_pos hz] at h1
      injection h1 with _ h2
      rw [h2, decide_eq_true hz.1, decide_eq_true hz.2]; rfl
    · rw [if_neg hz] at h1
      have h2 : e = (tellB (powQ q n)).2 := congrArg Prod.snd h1
      have h3 : ¬ e = 12 := by
        rw [h2]; unfold tellB; split
        · show ¬ (0 : Int) = 12; decide
        · show ¬ (2 : Int) = 12; decide
      rw [show (e == 12) = false by simpa using h3]
      by_cases hn : n < 0
      · rw [decide_eq_true hn, decide_eq_false (fun h => hz ⟨hn, h⟩)]; rfl
      · rw [decide_eq_false hn, Bool.and_false])
  have hf := HF.out
  rw [hz] at hf
  simp only [Bool.false_and] at hf
  have b1 : (e == 0) = false := by simpa using he
  clear he
  clear e1 e2 e3 na ha hp1 hp0
  go_enter Tryd.func8, Tryd.ntmps8
  go_wp2_with fail
  refine (c_rIs' a HA.out HI.out).mono ?_
  rintro e w1 ⟨rfl, hb1⟩
  go_wp2_with fail
  refine (HC1.out _).mono ?_
  rintro e w2 ⟨rfl, hb2⟩
  go_wp2_with fail
  refine (HC2.out _).mono ?_
  rintro e w3 ⟨rfl, hb3⟩
  go_wp2_with fail
  refine (HC3.out _).mono ?_
  rintro e w4 ⟨rfl, hb4⟩
  go_wp2_with fail
  refine (HC4.out _).mono ?_
  rintro e w5 ⟨rfl, hb5⟩
  go_wp2_with fail
  refine (HC5.out _).mono ?_
  rintro e w6 ⟨rfl, hb6⟩
  go_wp2_with fail
  refine (c_alive).mono ?_
  rintro e w7 ⟨rfl, hb7⟩
  go_wp2_with fail
  go_ret
  exact ⟨rfl, blq⟩
set_option maxRecDepth 100000 in
set_option maxHeartbeats 8000000 in
theorem pow_fz (a : ByteArray) (n m : Int) {q : Rat} (na : numB a = some q) (h1 : -50 ≤ n) (h2 : n ≤ 50) (h3 : -50 ≤ m) (h4 : m ≤ 50) {p r s : ByteArray} {e f g : Int} (e1 : rPow a n = (p, e)) (e2 : rPow a m = (r, f)) (e3 : rPow a (n + m) = (s, g)) (hz : (a.toList == [48]) = true) (he : e = 0) (hff : ¬ f = 0) :
    Calls Tryd.prog 8 #[.string a, .int .i64 n, .int .i64 m] w fun e w' => e = .returned (.bool true) ∧ Below w.heap.size w w' := by
  have ha : a.size ≤ 140737488351232 := by have := num_size na; omega
  have HA := Lib.hid ha
  have HI := Lib.hid (show rIs a = true by rw [rIs, na]; rfl)
  have d1 : decide (n < -50) = false := decide_eq_false (by omega)
  have d2 : decide (50 < n) = false := decide_eq_false (by omega)
  have d3 : decide (m < -50) = false := decide_eq_false (by omega)
  have d4 : decide (50 < m) = false := decide_eq_false (by omega)
  have wnm : IntKind.i64.wrap (n + m) = n + m := IntWalk.i64_in _ ⟨by omega, by omega⟩
  have HC1 := Lib.hid (fun (W : World) => c_named (w := W) e1 (c_rPow a n ha))
  have HC2 := Lib.hid (fun (W : World) => c_named (w := W) e2 (c_rPow a m ha))
  have HC3 := Lib.hid (fun (W : World) => c_named (w := W) e3 (c_rPow a (n + m) ha))
  have hp1 : rPow a 1 = (a, 0) := by
    rw [rpow_yes na (by omega) (by omega), if_neg (by omega), show powQ q 1 = q from by rw [show (1 : Int) = ((1 : Nat) : Int) from rfl, powQ_nat]; grind]
    have h := numB_some.1 na
    rw [tellB, if_pos h.2, ← h.1]
  have hp0 : rPow a 0 = (⟨#[49]⟩, 0) := by
    rw [rpow_yes na (by omega) (by omega), if_neg (by omega), show powQ q 0 = 1 from by rw [show (0 : Int) = ((0 : Nat) : Int) from rfl, powQ_nat]; grind]
    exact (si 1 [49] (by decide +kernel)).2
  have HC4 := Lib.hid (fun (W : World) => c_named (w := W) hp1 (c_rPow a 1 ha))
  have HC5 := Lib.hid (fun (W : World) => c_named (w := W) hp0 (c_rPow a 0 ha))
  have HF := Lib.hid (show (e == 12) = ((a.toList == [48]) && decide (n < 0)) from by
    have h1 := rpow_yes na (n := n) (by omega) (by omega)
    rw [e1] at h1
    have h0 : (a.toList == [48]) = decide (q = 0) := by
      rw [ByteArray.toList_eq]
      by_cases hq : q = 0
      · rw [decide_eq_true hq, beq_iff_eq, (numB_some.1 na).1, hq, strF_zero]
      · rw [decide_eq_false hq, beq_eq_false_iff_ne]
        intro h
        have h3 := bs_of h
        rw [h3, show bsOf [48] = ⟨#[48]⟩ from rfl, ← strF_zero, numB_str (short_small (by decide) (by decide))] at na
        exact hq (Option.some.inj na).symm
    rw [h0]
    by_cases hz : n < 0 ∧ q = 0
    · rw [if_pos hz] at h1
      injection h1 with _ h2
      rw [h2, decide_eq_true hz.1, decide_eq_true hz.2]; rfl
    · rw [if_neg hz] at h1
      have h2 : e = (tellB (powQ q n)).2 := congrArg Prod.snd h1
      have h3 : ¬ e = 12 := by
        rw [h2]; unfold tellB; split
        · show ¬ (0 : Int) = 12; decide
        · show ¬ (2 : Int) = 12; decide
      rw [show (e == 12) = false by simpa using h3]
      by_cases hn : n < 0
      · rw [decide_eq_true hn, decide_eq_false (fun h => hz ⟨hn, h⟩)]; rfl
      · rw [decide_eq_false hn, Bool.and_false])
  have hf := HF.out
  rw [hz] at hf
  simp only [Bool.true_and] at hf
  subst he
  have b2 : (f == 0) = false := by simpa using hff
  clear hff
  clear e1 e2 e3 na ha hp1 hp0
  go_enter Tryd.func8, Tryd.ntmps8
  go_wp2_with fail
  refine (c_rIs' a HA.out HI.out).mono ?_
  rintro e w1 ⟨rfl, hb1⟩
  go_wp2_with fail
  refine (HC1.out _).mono ?_
  rintro e w2 ⟨rfl, hb2⟩
  go_wp2_with fail
  refine (HC2.out _).mono ?_
  rintro e w3 ⟨rfl, hb3⟩
  go_wp2_with fail
  refine (HC3.out _).mono ?_
  rintro e w4 ⟨rfl, hb4⟩
  go_wp2_with fail
  refine (HC4.out _).mono ?_
  rintro e w5 ⟨rfl, hb5⟩
  go_wp2_with fail
  refine (HC5.out _).mono ?_
  rintro e w6 ⟨rfl, hb6⟩
  go_wp2_with fail
  refine (c_alive).mono ?_
  rintro e w7 ⟨rfl, hb7⟩
  go_wp2_with fail
  go_ret
  exact ⟨rfl, blq⟩
set_option maxRecDepth 100000 in
set_option maxHeartbeats 8000000 in
theorem pow_fn (a : ByteArray) (n m : Int) {q : Rat} (na : numB a = some q) (h1 : -50 ≤ n) (h2 : n ≤ 50) (h3 : -50 ≤ m) (h4 : m ≤ 50) {p r s : ByteArray} {e f g : Int} (e1 : rPow a n = (p, e)) (e2 : rPow a m = (r, f)) (e3 : rPow a (n + m) = (s, g)) (hz : (a.toList == [48]) = false) (he : e = 0) (hff : ¬ f = 0) :
    Calls Tryd.prog 8 #[.string a, .int .i64 n, .int .i64 m] w fun e w' => e = .returned (.bool true) ∧ Below w.heap.size w w' := by
  have ha : a.size ≤ 140737488351232 := by have := num_size na; omega
  have HA := Lib.hid ha
  have HI := Lib.hid (show rIs a = true by rw [rIs, na]; rfl)
  have d1 : decide (n < -50) = false := decide_eq_false (by omega)
  have d2 : decide (50 < n) = false := decide_eq_false (by omega)
  have d3 : decide (m < -50) = false := decide_eq_false (by omega)
  have d4 : decide (50 < m) = false := decide_eq_false (by omega)
  have wnm : IntKind.i64.wrap (n + m) = n + m := IntWalk.i64_in _ ⟨by omega, by omega⟩
  have HC1 := Lib.hid (fun (W : World) => c_named (w := W) e1 (c_rPow a n ha))
  have HC2 := Lib.hid (fun (W : World) => c_named (w := W) e2 (c_rPow a m ha))
  have HC3 := Lib.hid (fun (W : World) => c_named (w := W) e3 (c_rPow a (n + m) ha))
  have hp1 : rPow a 1 = (a, 0) := by
    rw [rpow_yes na (by omega) (by omega), if_neg (by omega), show powQ q 1 = q from by rw [show (1 : Int) = ((1 : Nat) : Int) from rfl, powQ_nat]; grind]
    have h := numB_some.1 na
    rw [tellB, if_pos h.2, ← h.1]
  have hp0 : rPow a 0 = (⟨#[49]⟩, 0) := by
    rw [rpow_yes na (by omega) (by omega), if_neg (by omega), show powQ q 0 = 1 from by rw [show (0 : Int) = ((0 : Nat) : Int) from rfl, powQ_nat]; grind]
    exact (si 1 [49] (by decide +kernel)).2
  have HC4 := Lib.hid (fun (W : World) => c_named (w := W) hp1 (c_rPow a 1 ha))
  have HC5 := Lib.hid (fun (W : World) => c_named (w := W) hp0 (c_rPow a 0 ha))
  have HF := Lib.hid (show (e == 12) = ((a.toList == [48]) && decide (n < 0)) from by
    have h1 := rpow_yes na (n := n) (by omega) (by omega)
    rw [e1] at h1
    have h0 : (a.toList == [48]) = decide (q = 0) := by
      rw [ByteArray.toList_eq]
      by_cases hq : q = 0
      · rw [decide_eq_true hq, beq_iff_eq, (numB_some.1 na).1, hq, strF_zero]
      · rw [decide_eq_false hq, beq_eq_false_iff_ne]
        intro h
        have h3 := bs_of h
        rw [h3, show bsOf [48] = ⟨#[48]⟩ from rfl, ← strF_zero, numB_str (short_small (by decide) (by decide))] at na
        exact hq (Option.some.inj na).symm
    rw [h0]
    by_cases hz : n < 0 ∧ q = 0
    · rw [if_pos hz] at h1
      injection h1 with _ h2
      rw [h2, decide_eq_true hz.1, decide_eq_true hz.2]; rfl
    · rw [if_neg hz] at h1
      have h2 : e = (tellB (powQ q n)).2 := congrArg Prod.snd h1
      have h3 : ¬ e = 12 := by
        rw [h2]; unfold tellB; split
        · show ¬ (0 : Int) = 12; decide
        · show ¬ (2 : Int) = 12; decide
      rw [show (e == 12) = false by simpa using h3]
      by_cases hn : n < 0
      · rw [decide_eq_true hn, decide_eq_false (fun h => hz ⟨hn, h⟩)]; rfl
      · rw [decide_eq_false hn, Bool.and_false])
  have hf := HF.out
  rw [hz] at hf
  simp only [Bool.false_and] at hf
  subst he
  have b2 : (f == 0) = false := by simpa using hff
  clear hff
  clear e1 e2 e3 na ha hp1 hp0
  go_enter Tryd.func8, Tryd.ntmps8
  go_wp2_with fail
  refine (c_rIs' a HA.out HI.out).mono ?_
  rintro e w1 ⟨rfl, hb1⟩
  go_wp2_with fail
  refine (HC1.out _).mono ?_
  rintro e w2 ⟨rfl, hb2⟩
  go_wp2_with fail
  refine (HC2.out _).mono ?_
  rintro e w3 ⟨rfl, hb3⟩
  go_wp2_with fail
  refine (HC3.out _).mono ?_
  rintro e w4 ⟨rfl, hb4⟩
  go_wp2_with fail
  refine (HC4.out _).mono ?_
  rintro e w5 ⟨rfl, hb5⟩
  go_wp2_with fail
  refine (HC5.out _).mono ?_
  rintro e w6 ⟨rfl, hb6⟩
  go_wp2_with fail
  refine (c_alive).mono ?_
  rintro e w7 ⟨rfl, hb7⟩
  go_wp2_with fail
  go_ret
  exact ⟨rfl, blq⟩
set_option maxRecDepth 100000 in
set_option maxHeartbeats 8000000 in
theorem pow_gz (a : ByteArray) (n m : Int) {q : Rat} (na : numB a = some q) (h1 : -50 ≤ n) (h2 : n ≤ 50) (h3 : -50 ≤ m) (h4 : m ≤ 50) {p r s : ByteArray} {e f g : Int} (e1 : rPow a n = (p, e)) (e2 : rPow a m = (r, f)) (e3 : rPow a (n + m) = (s, g)) (hz : (a.toList == [48]) = true) (he : e = 0) (hff : f = 0) (hg : ¬ g = 0) :
    Calls Tryd.prog 8 #[.string a, .int .i64 n, .int .i64 m] w fun e w' => e = .returned (.bool true) ∧ Below w.heap.size w w' := by
  have ha : a.size ≤ 140737488351232 := by have := num_size na; omega
  have HA := Lib.hid ha
  have HI := Lib.hid (show rIs a = true by rw [rIs, na]; rfl)
  have d1 : decide (n < -50) = false := decide_eq_false (by omega)
  have d2 : decide (50 < n) = false := decide_eq_false (by omega)
  have d3 : decide (m < -50) = false := decide_eq_false (by omega)
  have d4 : decide (50 < m) = false := decide_eq_false (by omega)
  have wnm : IntKind.i64.wrap (n + m) = n + m := IntWalk.i64_in _ ⟨by omega, by omega⟩
  have HC1 := Lib.hid (fun (W : World) => c_named (w := W) e1 (c_rPow a n ha))
  have HC2 := Lib.hid (fun (W : World) => c_named (w := W) e2 (c_rPow a m ha))
  have HC3 := Lib.hid (fun (W : World) => c_named (w := W) e3 (c_rPow a (n + m) ha))
  have hp1 : rPow a 1 = (a, 0) := by
    rw [rpow_yes na (by omega) (by omega), if_neg (by omega), show powQ q 1 = q from by rw [show (1 : Int) = ((1 : Nat) : Int) from rfl, powQ_nat]; grind]
    have h := numB_some.1 na
    rw [tellB, if_pos h.2, ← h.1]
  have hp0 : rPow a 0 = (⟨#[49]⟩, 0) := by
    rw [rpow_yes na (by omega) (by omega), if_neg (by omega), show powQ q 0 = 1 from by rw [show (0 : Int) = ((0 : Nat) : Int) from rfl, powQ_nat]; grind]
    exact (si 1 [49] (by decide +kernel)).2
  have HC4 := Lib.hid (fun (W : World) => c_named (w := W) hp1 (c_rPow a 1 ha))
  have HC5 := Lib.hid (fun (W : World) => c_named (w := W) hp0 (c_rPow a 0 ha))
  have HF := Lib.hid (show (e == 12) = ((a.toList == [48]) && decide (n < 0)) from by
    have h1 := rpow_yes na (n := n) (by omega) (by omega)
    rw [e1] at h1
    have h0 : (a.toList == [48]) = decide (q = 0) := by
      rw [ByteArray.toList_eq]
      by_cases hq : q = 0
      · rw [decide_eq_true hq, beq_iff_eq, (numB_some.1 na).1, hq, strF_zero]
      · rw [decide_eq_false hq, beq_eq_false_iff_ne]
        intro h
        have h3 := bs_of h
        rw [h3, show bsOf [48] = ⟨#[48]⟩ from rfl, ← strF_zero, numB_str (short_small (by decide) (by decide))] at na
        exact hq (Option.some.inj na).symm
    rw [h0]
    by_cases hz : n < 0 ∧ q = 0
    · rw [if_pos hz] at h1
      injection h1 with _ h2
      rw [h2, decide_eq_true hz.1, decide_eq_true hz.2]; rfl
    · rw [if_neg hz] at h1
      have h2 : e = (tellB (powQ q n)).2 := congrArg Prod.snd h1
      have h3 : ¬ e = 12 := by
        rw [h2]; unfold tellB; split
        · show ¬ (0 : Int) = 12; decide
        · show ¬ (2 : Int) = 12; decide
      rw [show (e == 12) = false by simpa using h3]
      by_cases hn : n < 0
      · rw [decide_eq_true hn, decide_eq_false (fun h => hz ⟨hn, h⟩)]; rfl
      · rw [decide_eq_false hn, Bool.and_false])
  have hf := HF.out
  rw [hz] at hf
  simp only [Bool.true_and] at hf
  subst he
  subst hff
  have b3 : (g == 0) = false := by simpa using hg
  clear hg
  clear e1 e2 e3 na ha hp1 hp0
  go_enter Tryd.func8, Tryd.ntmps8
  go_wp2_with fail
  refine (c_rIs' a HA.out HI.out).mono ?_
  rintro e w1 ⟨rfl, hb1⟩
  go_wp2_with fail
  refine (HC1.out _).mono ?_
  rintro e w2 ⟨rfl, hb2⟩
  go_wp2_with fail
  refine (HC2.out _).mono ?_
  rintro e w3 ⟨rfl, hb3⟩
  go_wp2_with fail
  refine (HC3.out _).mono ?_
  rintro e w4 ⟨rfl, hb4⟩
  go_wp2_with fail
  refine (HC4.out _).mono ?_
  rintro e w5 ⟨rfl, hb5⟩
  go_wp2_with fail
  refine (HC5.out _).mono ?_
  rintro e w6 ⟨rfl, hb6⟩
  go_wp2_with fail
  refine (c_alive).mono ?_
  rintro e w7 ⟨rfl, hb7⟩
  go_wp2_with fail
  go_ret
  exact ⟨rfl, blq⟩
set_option maxRecDepth 100000 in
set_option maxHeartbeats 8000000 in
theorem pow_gn (a : ByteArray) (n m : Int) {q : Rat} (na : numB a = some q) (h1 : -50 ≤ n) (h2 : n ≤ 50) (h3 : -50 ≤ m) (h4 : m ≤ 50) {p r s : ByteArray} {e f g : Int} (e1 : rPow a n = (p, e)) (e2 : rPow a m = (r, f)) (e3 : rPow a (n + m) = (s, g)) (hz : (a.toList == [48]) = false) (he : e = 0) (hff : f = 0) (hg : ¬ g = 0) :
    Calls Tryd.prog 8 #[.string a, .int .i64 n, .int .i64 m] w fun e w' => e = .returned (.bool true) ∧ Below w.heap.size w w' := by
  have ha : a.size ≤ 140737488351232 := by have := num_size na; omega
  have HA := Lib.hid ha
  have HI := Lib.hid (show rIs a = true by rw [rIs, na]; rfl)
  have d1 : decide (n < -50) = false := decide_eq_false (by omega)
  have d2 : decide (50 < n) = false := decide_eq_false (by omega)
  have d3 : decide (m < -50) = false := decide_eq_false (by omega)
  have d4 : decide (50 < m) = false := decide_eq_false (by omega)
  have wnm : IntKind.i64.wrap (n + m) = n + m := IntWalk.i64_in _ ⟨by omega, by omega⟩
  have HC1 := Lib.hid (fun (W : World) => c_named (w := W) e1 (c_rPow a n ha))
  have HC2 := Lib.hid (fun (W : World) => c_named (w := W) e2 (c_rPow a m ha))
  have HC3 := Lib.hid (fun (W : World) => c_named (w := W) e3 (c_rPow a (n + m) ha))
  have hp1 : rPow a 1 = (a, 0) := by
    rw [rpow_yes na (by omega) (by omega), if_neg (by omega), show powQ q 1 = q from by rw [show (1 : Int) = ((1 : Nat) : Int) from rfl, powQ_nat]; grind]
    have h := numB_some.1 na
    rw [tellB, if_pos h.2, ← h.1]
  have hp0 : rPow a 0 = (⟨#[49]⟩, 0) := by
    rw [rpow_yes na (by omega) (by omega), if_neg (by omega), show powQ q 0 = 1 from by rw [show (0 : Int) = ((0 : Nat) : Int) from rfl, powQ_nat]; grind]
    exact (si 1 [49] (by decide +kernel)).2
  have HC4 := Lib.hid (fun (W : World) => c_named (w := W) hp1 (c_rPow a 1 ha))
  have HC5 := Lib.hid (fun (W : World) => c_named (w := W) hp0 (c_rPow a 0 ha))
  have HF := Lib.hid (show (e == 12) = ((a.toList == [48]) && decide (n < 0)) from by
    have h1 := rpow_yes na (n := n) (by omega) (by omega)
    rw [e1] at h1
    have h0 : (a.toList == [48]) = decide (q = 0) := by
      rw [ByteArray.toList_eq]
      by_cases hq : q = 0
      · rw [decide_eq_true hq, beq_iff_eq, (numB_some.1 na).1, hq, strF_zero]
      · rw [decide_eq_false hq, beq_eq_false_iff_ne]
        intro h
        have h3 := bs_of h
        rw [h3, show bsOf [48] = ⟨#[48]⟩ from rfl, ← strF_zero, numB_str (short_small (by decide) (by decide))] at na
        exact hq (Option.some.inj na).symm
    rw [h0]
    by_cases hz : n < 0 ∧ q = 0
    · rw [if_pos hz] at h1
      injection h1 with _ h2
      rw [h2, decide_eq_true hz.1, decide_eq_true hz.2]; rfl
    · rw [if_neg hz] at h1
      have h2 : e = (tellB (powQ q n)).2 := congrArg Prod.snd h1
      have h3 : ¬ e = 12 := by
        rw [h2]; unfold tellB; split
        · show ¬ (0 : Int) = 12; decide
        · show ¬ (2 : Int) = 12; decide
      rw [show (e == 12) = false by simpa using h3]
      by_cases hn : n < 0
      · rw [decide_eq_true hn, decide_eq_false (fun h => hz ⟨hn, h⟩)]; rfl
      · rw [decide_eq_false hn, Bool.and_false])
  have hf := HF.out
  rw [hz] at hf
  simp only [Bool.false_and] at hf
  subst he
  subst hff
  have b3 : (g == 0) = false := by simpa using hg
  clear hg
  clear e1 e2 e3 na ha hp1 hp0
  go_enter Tryd.func8, Tryd.ntmps8
  go_wp2_with fail
  refine (c_rIs' a HA.out HI.out).mono ?_
  rintro e w1 ⟨rfl, hb1⟩
  go_wp2_with fail
  refine (HC1.out _).mono ?_
  rintro e w2 ⟨rfl, hb2⟩
  go_wp2_with fail
  refine (HC2.out _).mono ?_
  rintro e w3 ⟨rfl, hb3⟩
  go_wp2_with fail
  refine (HC3.out _).mono ?_
  rintro e w4 ⟨rfl, hb4⟩
  go_wp2_with fail
  refine (HC4.out _).mono ?_
  rintro e w5 ⟨rfl, hb5⟩
  go_wp2_with fail
  refine (HC5.out _).mono ?_
  rintro e w6 ⟨rfl, hb6⟩
  go_wp2_with fail
  refine (c_alive).mono ?_
  rintro e w7 ⟨rfl, hb7⟩
  go_wp2_with fail
  go_ret
  exact ⟨rfl, blq⟩
set_option maxRecDepth 100000 in
set_option maxHeartbeats 8000000 in
theorem pow_kz (a : ByteArray) (n m : Int) {q : Rat} (na : numB a = some q) (h1 : -50 ≤ n) (h2 : n ≤ 50) (h3 : -50 ≤ m) (h4 : m ≤ 50) {p r s : ByteArray} {e f g : Int} (e1 : rPow a n = (p, e)) (e2 : rPow a m = (r, f)) (e3 : rPow a (n + m) = (s, g)) (hz : (a.toList == [48]) = true) (he : e = 0) (hff : f = 0) (hg : g = 0) {x : ByteArray} (e4 : rPrd p r = (x, false)) :
    Calls Tryd.prog 8 #[.string a, .int .i64 n, .int .i64 m] w fun e w' => e = .returned (.bool true) ∧ Below w.heap.size w w' := by
  have ha : a.size ≤ 140737488351232 := by have := num_size na; omega
  have HA := Lib.hid ha
  have HI := Lib.hid (show rIs a = true by rw [rIs, na]; rfl)
  have d1 : decide (n < -50) = false := decide_eq_false (by omega)
  have d2 : decide (50 < n) = false := decide_eq_false (by omega)
  have d3 : decide (m < -50) = false := decide_eq_false (by omega)
  have d4 : decide (50 < m) = false := decide_eq_false (by omega)
  have wnm : IntKind.i64.wrap (n + m) = n + m := IntWalk.i64_in _ ⟨by omega, by omega⟩
  have HC1 := Lib.hid (fun (W : World) => c_named (w := W) e1 (c_rPow a n ha))
  have HC2 := Lib.hid (fun (W : World) => c_named (w := W) e2 (c_rPow a m ha))
  have HC3 := Lib.hid (fun (W : World) => c_named (w := W) e3 (c_rPow a (n + m) ha))
  have hp1 : rPow a 1 = (a, 0) := by
    rw [rpow_yes na (by omega) (by omega), if_neg (by omega), show powQ q 1 = q from by rw [show (1 : Int) = ((1 : Nat) : Int) from rfl, powQ_nat]; grind]
    have h := numB_some.1 na
    rw [tellB, if_pos h.2, ← h.1]
  have hp0 : rPow a 0 = (⟨#[49]⟩, 0) := by
    rw [rpow_yes na (by omega) (by omega), if_neg (by omega), show powQ q 0 = 1 from by rw [show (0 : Int) = ((0 : Nat) : Int) from rfl, powQ_nat]; grind]
    exact (si 1 [49] (by decide +kernel)).2
  have HC4 := Lib.hid (fun (W : World) => c_named (w := W) hp1 (c_rPow a 1 ha))
  have HC5 := Lib.hid (fun (W : World) => c_named (w := W) hp0 (c_rPow a 0 ha))
  have HF := Lib.hid (show (e == 12) = ((a.toList == [48]) && decide (n < 0)) from by
    have h1 := rpow_yes na (n := n) (by omega) (by omega)
    rw [e1] at h1
    have h0 : (a.toList == [48]) = decide (q = 0) := by
      rw [ByteArray.toList_eq]
      by_cases hq : q = 0
      · rw [decide_eq_true hq, beq_iff_eq, (numB_some.1 na).1, hq, strF_zero]
      · rw [decide_eq_false hq, beq_eq_false_iff_ne]
        intro h
        have h3 := bs_of h
        rw [h3, show bsOf [48] = ⟨#[48]⟩ from rfl, ← strF_zero, numB_str (short_small (by decide) (by decide))] at na
        exact hq (Option.some.inj na).symm
    rw [h0]
    by_cases hz : n < 0 ∧ q = 0
    · rw [if_pos hz] at h1
      injection h1 with _ h2
      rw [h2, decide_eq_true hz.1, decide_eq_true hz.2]; rfl
    · rw [if_neg hz] at h1
      have h2 : e = (tellB (powQ q n)).2 := congrArg Prod.snd h1
      have h3 : ¬ e = 12 := by
        rw [h2]; unfold tellB; split
        · show ¬ (0 : Int) = 12; decide
        · show ¬ (2 : Int) = 12; decide
      rw [show (e == 12) = false by simpa using h3]
      by_cases hn : n < 0
      · rw [decide_eq_true hn, decide_eq_false (fun h => hz ⟨hn, h⟩)]; rfl
      · rw [decide_eq_false hn, Bool.and_false])
  have hf := HF.out
  rw [hz] at hf
  simp only [Bool.true_and] at hf
  have Z1 := Lib.hid (show p.size ≤ 140737488351232 from by have h := pow_size a n; rw [e1] at h; exact Nat.le_trans h (by omega))
  have Z2 := Lib.hid (show r.size ≤ 140737488351232 from by have h := pow_size a m; rw [e2] at h; exact Nat.le_trans h (by omega))
  have E4 := Lib.hid e4
  subst he
  subst hff
  subst hg
  clear e4
  clear e1 e2 e3 na ha hp1 hp0
  go_enter Tryd.func8, Tryd.ntmps8
  go_wp2_with fail
  refine (c_rIs' a HA.out HI.out).mono ?_
  rintro e w1 ⟨rfl, hb1⟩
  go_wp2_with fail
  refine (HC1.out _).mono ?_
  rintro e w2 ⟨rfl, hb2⟩
  go_wp2_with fail
  refine (HC2.out _).mono ?_
  rintro e w3 ⟨rfl, hb3⟩
  go_wp2_with fail
  refine (HC3.out _).mono ?_
  rintro e w4 ⟨rfl, hb4⟩
  go_wp2_with fail
  refine (c_prd Z1.out Z2.out E4.out).mono ?_
  rintro e w5 ⟨rfl, hb5⟩
  go_wp2_with fail
  refine (HC4.out _).mono ?_
  rintro e w6 ⟨rfl, hb6⟩
  go_wp2_with fail
  refine (HC5.out _).mono ?_
  rintro e w7 ⟨rfl, hb7⟩
  go_wp2_with fail
  refine (c_alive).mono ?_
  rintro e w8 ⟨rfl, hb8⟩
  go_wp2_with fail
  go_ret
  exact ⟨rfl, blq⟩
set_option maxRecDepth 100000 in
set_option maxHeartbeats 8000000 in
theorem pow_kn (a : ByteArray) (n m : Int) {q : Rat} (na : numB a = some q) (h1 : -50 ≤ n) (h2 : n ≤ 50) (h3 : -50 ≤ m) (h4 : m ≤ 50) {p r s : ByteArray} {e f g : Int} (e1 : rPow a n = (p, e)) (e2 : rPow a m = (r, f)) (e3 : rPow a (n + m) = (s, g)) (hz : (a.toList == [48]) = false) (he : e = 0) (hff : f = 0) (hg : g = 0) {x : ByteArray} (e4 : rPrd p r = (x, false)) :
    Calls Tryd.prog 8 #[.string a, .int .i64 n, .int .i64 m] w fun e w' => e = .returned (.bool true) ∧ Below w.heap.size w w' := by
  have ha : a.size ≤ 140737488351232 := by have := num_size na; omega
  have HA := Lib.hid ha
  have HI := Lib.hid (show rIs a = true by rw [rIs, na]; rfl)
  have d1 : decide (n < -50) = false := decide_eq_false (by omega)
  have d2 : decide (50 < n) = false := decide_eq_false (by omega)
  have d3 : decide (m < -50) = false := decide_eq_false (by omega)
  have d4 : decide (50 < m) = false := decide_eq_false (by omega)
  have wnm : IntKind.i64.wrap (n + m) = n + m := IntWalk.i64_in _ ⟨by omega, by omega⟩
  have HC1 := Lib.hid (fun (W : World) => c_named (w := W) e1 (c_rPow a n ha))
  have HC2 := Lib.hid (fun (W : World) => c_named (w := W) e2 (c_rPow a m ha))
  have HC3 := Lib.hid (fun (W : World) => c_named (w := W) e3 (c_rPow a (n + m) ha))
  have hp1 : rPow a 1 = (a, 0) := by
    rw [rpow_yes na (by omega) (by omega), if_neg (by omega), show powQ q 1 = q from by rw [show (1 : Int) = ((1 : Nat) : Int) from rfl, powQ_nat]; grind]
    have h := numB_some.1 na
    rw [tellB, if_pos h.2, ← h.1]
  have hp0 : rPow a 0 = (⟨#[49]⟩, 0) := by
    rw [rpow_yes na (by omega) (by omega), if_neg (by omega), show powQ q 0 = 1 from by rw [show (0 : Int) = ((0 : Nat) : Int) from rfl, powQ_nat]; grind]
    exact (si 1 [49] (by decide +kernel)).2
  have HC4 := Lib.hid (fun (W : World) => c_named (w := W) hp1 (c_rPow a 1 ha))
  have HC5 := Lib.hid (fun (W : World) => c_named (w := W) hp0 (c_rPow a 0 ha))
  have HF := Lib.hid (show (e == 12) = ((a.toList == [48]) && decide (n < 0)) from by
    have h1 := rpow_yes na (n := n) (by omega) (by omega)
    rw [e1] at h1
    have h0 : (a.toList == [48]) = decide (q = 0) := by
      rw [ByteArray.toList_eq]
      by_cases hq : q = 0
      · rw [decide_eq_true hq, beq_iff_eq, (numB_some.1 na).1, hq, strF_zero]
      · rw [decide_eq_false hq, beq_eq_false_iff_ne]
        intro h
        have h3 := bs_of h
        rw [h3, show bsOf [48] = ⟨#[48]⟩ from rfl, ← strF_zero, numB_str (short_small (by decide) (by decide))] at na
        exact hq (Option.some.inj na).symm
    rw [h0]
    by_cases hz : n < 0 ∧ q = 0
    · rw [if_pos hz] at h1
      injection h1 with _ h2
      rw [h2, decide_eq_true hz.1, decide_eq_true hz.2]; rfl
    · rw [if_neg hz] at h1
      have h2 : e = (tellB (powQ q n)).2 := congrArg Prod.snd h1
      have h3 : ¬ e = 12 := by
        rw [h2]; unfold tellB; split
        · show ¬ (0 : Int) = 12; decide
        · show ¬ (2 : Int) = 12; decide
      rw [show (e == 12) = false by simpa using h3]
      by_cases hn : n < 0
      · rw [decide_eq_true hn, decide_eq_false (fun h => hz ⟨hn, h⟩)]; rfl
      · rw [decide_eq_false hn, Bool.and_false])
  have hf := HF.out
  rw [hz] at hf
  simp only [Bool.false_and] at hf
  have Z1 := Lib.hid (show p.size ≤ 140737488351232 from by have h := pow_size a n; rw [e1] at h; exact Nat.le_trans h (by omega))
  have Z2 := Lib.hid (show r.size ≤ 140737488351232 from by have h := pow_size a m; rw [e2] at h; exact Nat.le_trans h (by omega))
  have E4 := Lib.hid e4
  subst he
  subst hff
  subst hg
  clear e4
  clear e1 e2 e3 na ha hp1 hp0
  go_enter Tryd.func8, Tryd.ntmps8
  go_wp2_with fail
  refine (c_rIs' a HA.out HI.out).mono ?_
  rintro e w1 ⟨rfl, hb1⟩
  go_wp2_with fail
  refine (HC1.out _).mono ?_
  rintro e w2 ⟨rfl, hb2⟩
  go_wp2_with fail
  refine (HC2.out _).mono ?_
  rintro e w3 ⟨rfl, hb3⟩
  go_wp2_with fail
  refine (HC3.out _).mono ?_
  rintro e w4 ⟨rfl, hb4⟩
  go_wp2_with fail
  refine (c_prd Z1.out Z2.out E4.out).mono ?_
  rintro e w5 ⟨rfl, hb5⟩
  go_wp2_with fail
  refine (HC4.out _).mono ?_
  rintro e w6 ⟨rfl, hb6⟩
  go_wp2_with fail
  refine (HC5.out _).mono ?_
  rintro e w7 ⟨rfl, hb7⟩
  go_wp2_with fail
  refine (c_alive).mono ?_
  rintro e w8 ⟨rfl, hb8⟩
  go_wp2_with fail
  go_ret
  exact ⟨rfl, blq⟩
set_option maxRecDepth 100000 in
set_option maxHeartbeats 8000000 in
theorem pow_xz (a : ByteArray) (n m : Int) {q : Rat} (na : numB a = some q) (h1 : -50 ≤ n) (h2 : n ≤ 50) (h3 : -50 ≤ m) (h4 : m ≤ 50) {p r s : ByteArray} {e f g : Int} (e1 : rPow a n = (p, e)) (e2 : rPow a m = (r, f)) (e3 : rPow a (n + m) = (s, g)) (hz : (a.toList == [48]) = true) (he : e = 0) (hff : f = 0) (hg : g = 0) {x : ByteArray} (e4 : rPrd p r = (x, true)) :
    Calls Tryd.prog 8 #[.string a, .int .i64 n, .int .i64 m] w fun e w' => e = .returned (.bool true) ∧ Below w.heap.size w w' := by
  have ha : a.size ≤ 140737488351232 := by have := num_size na; omega
  have HA := Lib.hid ha
  have HI := Lib.hid (show rIs a = true by rw [rIs, na]; rfl)
  have d1 : decide (n < -50) = false := decide_eq_false (by omega)
  have d2 : decide (50 < n) = false := decide_eq_false (by omega)
  have d3 : decide (m < -50) = false := decide_eq_false (by omega)
  have d4 : decide (50 < m) = false := decide_eq_false (by omega)
  have wnm : IntKind.i64.wrap (n + m) = n + m := IntWalk.i64_in _ ⟨by omega, by omega⟩
  have HC1 := Lib.hid (fun (W : World) => c_named (w := W) e1 (c_rPow a n ha))
  have HC2 := Lib.hid (fun (W : World) => c_named (w := W) e2 (c_rPow a m ha))
  have HC3 := Lib.hid (fun (W : World) => c_named (w := W) e3 (c_rPow a (n + m) ha))
  have hp1 : rPow a 1 = (a, 0) := by
    rw [rpow_yes na (by omega) (by omega), if_neg (by omega), show powQ q 1 = q from by rw [show (1 : Int) = ((1 : Nat) : Int) from rfl, powQ_nat]; grind]
    have h := numB_some.1 na
    rw [tellB, if_pos h.2, ← h.1]
  have hp0 : rPow a 0 = (⟨#[49]⟩, 0) := by
    rw [rpow_yes na (by omega) (by omega), if_neg (by omega), show powQ q 0 = 1 from by rw [show (0 : Int) = ((0 : Nat) : Int) from rfl, powQ_nat]; grind]
    exact (si 1 [49] (by decide +kernel)).2
  have HC4 := Lib.hid (fun (W : World) => c_named (w := W) hp1 (c_rPow a 1 ha))
  have HC5 := Lib.hid (fun (W : World) => c_named (w := W) hp0 (c_rPow a 0 ha))
  have HF := Lib.hid (show (e == 12) = ((a.toList == [48]) && decide (n < 0)) from by
    have h1 := rpow_yes na (n := n) (by omega) (by omega)
    rw [e1] at h1
    have h0 : (a.toList == [48]) = decide (q = 0) := by
      rw [ByteArray.toList_eq]
      by_cases hq : q = 0
      · rw [decide_eq_true hq, beq_iff_eq, (numB_some.1 na).1, hq, strF_zero]
      · rw [decide_eq_false hq, beq_eq_false_iff_ne]
        intro h
        have h3 := bs_of h
        rw [h3, show bsOf [48] = ⟨#[48]⟩ from rfl, ← strF_zero, numB_str (short_small (by decide) (by decide))] at na
        exact hq (Option.some.inj na).symm
    rw [h0]
    by_cases hz : n < 0 ∧ q = 0
    · rw [if_pos hz] at h1
      injection h1 with _ h2
      rw [h2, decide_eq_true hz.1, decide_eq_true hz.2]; rfl
    · rw [if_neg hz] at h1
      have h2 : e = (tellB (powQ q n)).2 := congrArg Prod.snd h1
      have h3 : ¬ e = 12 := by
        rw [h2]; unfold tellB; split
        · show ¬ (0 : Int) = 12; decide
        · show ¬ (2 : Int) = 12; decide
      rw [show (e == 12) = false by simpa using h3]
      by_cases hn : n < 0
      · rw [decide_eq_true hn, decide_eq_false (fun h => hz ⟨hn, h⟩)]; rfl
      · rw [decide_eq_false hn, Bool.and_false])
  have hf := HF.out
  rw [hz] at hf
  simp only [Bool.true_and] at hf
  have Z1 := Lib.hid (show p.size ≤ 140737488351232 from by have h := pow_size a n; rw [e1] at h; exact Nat.le_trans h (by omega))
  have Z2 := Lib.hid (show r.size ≤ 140737488351232 from by have h := pow_size a m; rw [e2] at h; exact Nat.le_trans h (by omega))
  have hx : x = s := by
    obtain ⟨a1, r1⟩ := rpow_res na (by omega) (by omega) e1 he
    obtain ⟨a2, r2⟩ := rpow_res na (by omega) (by omega) e2 hff
    obtain ⟨a3, r3⟩ := rpow_res na (by omega) (by omega) e3 hg
    refine num_inj (res_prd r1 r2 e4 rfl rfl rfl) (r3 rfl) (powQ_add ?_)
    by_cases h0 : q = 0
    · exact .inr ⟨by by_cases h : n < 0; exact absurd ⟨h, h0⟩ a1; omega, by by_cases h : m < 0; exact absurd ⟨h, h0⟩ a2; omega⟩
    · exact .inl h0
  subst hx
  have E4 := Lib.hid e4
  subst he
  subst hff
  subst hg
  clear e4
  clear e1 e2 e3 na ha hp1 hp0
  go_enter Tryd.func8, Tryd.ntmps8
  go_wp2_with fail
  refine (c_rIs' a HA.out HI.out).mono ?_
  rintro e w1 ⟨rfl, hb1⟩
  go_wp2_with fail
  refine (HC1.out _).mono ?_
  rintro e w2 ⟨rfl, hb2⟩
  go_wp2_with fail
  refine (HC2.out _).mono ?_
  rintro e w3 ⟨rfl, hb3⟩
  go_wp2_with fail
  refine (HC3.out _).mono ?_
  rintro e w4 ⟨rfl, hb4⟩
  go_wp2_with fail
  refine (c_prd Z1.out Z2.out E4.out).mono ?_
  rintro e w5 ⟨rfl, hb5⟩
  go_wp2_with fail
  refine (HC4.out _).mono ?_
  rintro e w6 ⟨rfl, hb6⟩
  go_wp2_with fail
  refine (HC5.out _).mono ?_
  rintro e w7 ⟨rfl, hb7⟩
  go_wp2_with fail
  refine (c_alive).mono ?_
  rintro e w8 ⟨rfl, hb8⟩
  go_wp2_with fail
  go_ret
  exact ⟨rfl, blq⟩
set_option maxRecDepth 100000 in
set_option maxHeartbeats 8000000 in
theorem pow_xn (a : ByteArray) (n m : Int) {q : Rat} (na : numB a = some q) (h1 : -50 ≤ n) (h2 : n ≤ 50) (h3 : -50 ≤ m) (h4 : m ≤ 50) {p r s : ByteArray} {e f g : Int} (e1 : rPow a n = (p, e)) (e2 : rPow a m = (r, f)) (e3 : rPow a (n + m) = (s, g)) (hz : (a.toList == [48]) = false) (he : e = 0) (hff : f = 0) (hg : g = 0) {x : ByteArray} (e4 : rPrd p r = (x, true)) :
    Calls Tryd.prog 8 #[.string a, .int .i64 n, .int .i64 m] w fun e w' => e = .returned (.bool true) ∧ Below w.heap.size w w' := by
  have ha : a.size ≤ 140737488351232 := by have := num_size na; omega
  have HA := Lib.hid ha
  have HI := Lib.hid (show rIs a = true by rw [rIs, na]; rfl)
  have d1 : decide (n < -50) = false := decide_eq_false (by omega)
  have d2 : decide (50 < n) = false := decide_eq_false (by omega)
  have d3 : decide (m < -50) = false := decide_eq_false (by omega)
  have d4 : decide (50 < m) = false := decide_eq_false (by omega)
  have wnm : IntKind.i64.wrap (n + m) = n + m := IntWalk.i64_in _ ⟨by omega, by omega⟩
  have HC1 := Lib.hid (fun (W : World) => c_named (w := W) e1 (c_rPow a n ha))
  have HC2 := Lib.hid (fun (W : World) => c_named (w := W) e2 (c_rPow a m ha))
  have HC3 := Lib.hid (fun (W : World) => c_named (w := W) e3 (c_rPow a (n + m) ha))
  have hp1 : rPow a 1 = (a, 0) := by
    rw [rpow_yes na (by omega) (by omega), if_neg (by omega), show powQ q 1 = q from by rw [show (1 : Int) = ((1 : Nat) : Int) from rfl, powQ_nat]; grind]
    have h := numB_some.1 na
    rw [tellB, if_pos h.2, ← h.1]
  have hp0 : rPow a 0 = (⟨#[49]⟩, 0) := by
    rw [rpow_yes na (by omega) (by omega), if_neg (by omega), show powQ q 0 = 1 from by rw [show (0 : Int) = ((0 : Nat) : Int) from rfl, powQ_nat]; grind]
    exact (si 1 [49] (by decide +kernel)).2
  have HC4 := Lib.hid (fun (W : World) => c_named (w := W) hp1 (c_rPow a 1 ha))
  have HC5 := Lib.hid (fun (W : World) => c_named (w := W) hp0 (c_rPow a 0 ha))
  have HF := Lib.hid (show (e == 12) = ((a.toList == [48]) && decide (n < 0)) from by
    have h1 := rpow_yes na (n := n) (by omega) (by omega)
    rw [e1] at h1
    have h0 : (a.toList == [48]) = decide (q = 0) := by
      rw [ByteArray.toList_eq]
      by_cases hq : q = 0
      · rw [decide_eq_true hq, beq_iff_eq, (numB_some.1 na).1, hq, strF_zero]
      · rw [decide_eq_false hq, beq_eq_false_iff_ne]
        intro h
        have h3 := bs_of h
        rw [h3, show bsOf [48] = ⟨#[48]⟩ from rfl, ← strF_zero, numB_str (short_small (by decide) (by decide))] at na
        exact hq (Option.some.inj na).symm
    rw [h0]
    by_cases hz : n < 0 ∧ q = 0
    · rw [if_pos hz] at h1
      injection h1 with _ h2
      rw [h2, decide_eq_true hz.1, decide_eq_true hz.2]; rfl
    · rw [if_neg hz] at h1
      have h2 : e = (tellB (powQ q n)).2 := congrArg Prod.snd h1
      have h3 : ¬ e = 12 := by
        rw [h2]; unfold tellB; split
        · show ¬ (0 : Int) = 12; decide
        · show ¬ (2 : Int) = 12; decide
      rw [show (e == 12) = false by simpa using h3]
      by_cases hn : n < 0
      · rw [decide_eq_true hn, decide_eq_false (fun h => hz ⟨hn, h⟩)]; rfl
      · rw [decide_eq_false hn, Bool.and_false])
  have hf := HF.out
  rw [hz] at hf
  simp only [Bool.false_and] at hf
  have Z1 := Lib.hid (show p.size ≤ 140737488351232 from by have h := pow_size a n; rw [e1] at h; exact Nat.le_trans h (by omega))
  have Z2 := Lib.hid (show r.size ≤ 140737488351232 from by have h := pow_size a m; rw [e2] at h; exact Nat.le_trans h (by omega))
  have hx : x = s := by
    obtain ⟨a1, r1⟩ := rpow_res na (by omega) (by omega) e1 he
    obtain ⟨a2, r2⟩ := rpow_res na (by omega) (by omega) e2 hff
    obtain ⟨a3, r3⟩ := rpow_res na (by omega) (by omega) e3 hg
    refine num_inj (res_prd r1 r2 e4 rfl rfl rfl) (r3 rfl) (powQ_add ?_)
    by_cases h0 : q = 0
    · exact .inr ⟨by by_cases h : n < 0; exact absurd ⟨h, h0⟩ a1; omega, by by_cases h : m < 0; exact absurd ⟨h, h0⟩ a2; omega⟩
    · exact .inl h0
  subst hx
  have E4 := Lib.hid e4
  subst he
  subst hff
  subst hg
  clear e4
  clear e1 e2 e3 na ha hp1 hp0
  go_enter Tryd.func8, Tryd.ntmps8
  go_wp2_with fail
  refine (c_rIs' a HA.out HI.out).mono ?_
  rintro e w1 ⟨rfl, hb1⟩
  go_wp2_with fail
  refine (HC1.out _).mono ?_
  rintro e w2 ⟨rfl, hb2⟩
  go_wp2_with fail
  refine (HC2.out _).mono ?_
  rintro e w3 ⟨rfl, hb3⟩
  go_wp2_with fail
  refine (HC3.out _).mono ?_
  rintro e w4 ⟨rfl, hb4⟩
  go_wp2_with fail
  refine (c_prd Z1.out Z2.out E4.out).mono ?_
  rintro e w5 ⟨rfl, hb5⟩
  go_wp2_with fail
  refine (HC4.out _).mono ?_
  rintro e w6 ⟨rfl, hb6⟩
  go_wp2_with fail
  refine (HC5.out _).mono ?_
  rintro e w7 ⟨rfl, hb7⟩
  go_wp2_with fail
  refine (c_alive).mono ?_
  rintro e w8 ⟨rfl, hb8⟩
  go_wp2_with fail
  go_ret
  exact ⟨rfl, blq⟩
theorem c_RatPowers (a : ByteArray) (n m : Int) (ha : a.size ≤ 140737488351232) : Calls Tryd.prog 8 #[.string a, .int .i64 n, .int .i64 m] w fun e w' => e = .returned (.bool true) ∧ Below w.heap.size w w' := by
  cases na : numB a with
  | none => exact pow_i a n m ha (by rw [rIs, na]; rfl)
  | some q =>
    have hi : rIs a = true := by rw [rIs, na]; rfl
    by_cases h1 : n < -50
    · exact pow_a a n m ha hi h1
    · by_cases h2 : 50 < n
      · exact pow_b a n m ha hi h2
      · by_cases h3 : m < -50
        · exact pow_c a n m ha hi (by omega) (by omega) h3
        · by_cases h4 : 50 < m
          · exact pow_d a n m ha hi (by omega) (by omega) h4
          · obtain ⟨p, e, e1⟩ : ∃ s k, rPow a n = (s, k) := ⟨_, _, rfl⟩
            obtain ⟨r, f, e2⟩ : ∃ s k, rPow a m = (s, k) := ⟨_, _, rfl⟩
            obtain ⟨s, g, e3⟩ : ∃ s k, rPow a (n + m) = (s, k) := ⟨_, _, rfl⟩
            obtain ⟨x, k, e4⟩ : ∃ s k, rPrd p r = (s, k) := ⟨_, _, rfl⟩
            cases hz : (a.toList == [48])
            all_goals
              by_cases he : e = 0
              · by_cases hff : f = 0
                · by_cases hg : g = 0
                  · cases k
                    · first | exact pow_kz a n m na (by omega) (by omega) (by omega) (by omega) e1 e2 e3 hz he hff hg e4 | exact pow_kn a n m na (by omega) (by omega) (by omega) (by omega) e1 e2 e3 hz he hff hg e4
                    · first | exact pow_xz a n m na (by omega) (by omega) (by omega) (by omega) e1 e2 e3 hz he hff hg e4 | exact pow_xn a n m na (by omega) (by omega) (by omega) (by omega) e1 e2 e3 hz he hff hg e4
                  · first | exact pow_gz a n m na (by omega) (by omega) (by omega) (by omega) e1 e2 e3 hz he hff hg | exact pow_gn a n m na (by omega) (by omega) (by omega) (by omega) e1 e2 e3 hz he hff hg
                · first | exact pow_fz a n m na (by omega) (by omega) (by omega) (by omega) e1 e2 e3 hz he hff | exact pow_fn a n m na (by omega) (by omega) (by omega) (by omega) e1 e2 e3 hz he hff
              · first | exact pow_ez a n m na (by omega) (by omega) (by omega) (by omega) e1 e2 e3 hz he | exact pow_en a n m na (by omega) (by omega) (by omega) (by omega) e1 e2 e3 hz he
end
end Go.Proofs.YtpdghgfbfmaplaaDoor.Wh
end
