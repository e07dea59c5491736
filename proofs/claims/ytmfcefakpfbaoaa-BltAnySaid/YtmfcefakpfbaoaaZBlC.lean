/- Lemmas for RowBltAny. -/
import Derived.Test.YtmfcefakpfbaoaaQD
import Derived.Test.YtmfcefakpfbaoaaZShelf
import Derived.Laws.Strings
section
set_option linter.unusedVariables false
set_option linter.unusedSimpArgs false
namespace Go.Proofs.Ytmfcefakpfbaoaa.PMatch
open Go.RowKit Go.Proofs.YtmfcefakpfbaoaaW.PrintWords Go.Proofs.YtmfcefakpfbaoaaW.PrintLast Go.Proofs.YtmfcefakpfbaoaaW.PrintMore
def letterI (c : Int) : Bool := (decide (97 ≤ c) && decide (c ≤ 122)) || (decide (65 ≤ c) && decide (c ≤ 90))
set_option maxRecDepth 100000 in
set_option maxHeartbeats 1000000 in
theorem c_letter (c : Int) (w : World) : Calls Try.prog 85 #[.int .u8 c] w fun e w' => e = .returned (.bool (letterI c)) ∧ w' = w := by
  by_cases h1 : 97 ≤ c <;> by_cases h2 : c ≤ 122 <;> by_cases h3 : 65 ≤ c <;> by_cases h4 : c ≤ 90 <;> first | (exfalso; omega) | skip
  all_goals
    go_enter Try.func85, Try.ntmps85
    go_wp2_with fail
    go_ret
    exact ⟨by simp only [letterI]; simp; omega, rfl⟩
def strings_Compare.f (a b : ByteArray) : Option Int := some (Lib.compareBytes a.data.toList b.data.toList)
theorem strings_Compare.calls (a0 a1 : ByteArray) (r : Int) (w : World) (h : strings_Compare.f a0 a1 = some r) : Calls Try.prog 87 #[.string a0, .string a1] w fun e w' => e = .returned (.int .i64 r) ∧ Drawn0 w w' := by
  refine (Try.strings_Compare a0 a1 w).mono ?_
  rintro e w1 ⟨rfl, rfl⟩
  cases h
  exact ⟨rfl, Drawn0.refl _⟩
def okI (c : Int) : Bool := letterI c || (decide (48 ≤ c) && decide (c ≤ 57)) || [95, 46, 91, 93, 44, 39].contains c
theorem okI_cases {c : Int} (h : okI c = true) : letterI c = true ∨ (letterI c = false ∧ 48 ≤ c ∧ c ≤ 57) ∨ (letterI c = false ∧ (c < 48 ∨ 57 < c) ∧ 0 ≤ c ∧ c < 128 ∧ decide (0 ≤ Lib.indexByte (ByteArray.mk #[95, 46, 91, 93, 44, 39]).data.toList c.toNat.toUInt8) = true) := by
  unfold okI at h
  cases hl : letterI c
  · rw [hl] at h
    simp only [Bool.false_or, Bool.or_eq_true, Bool.and_eq_true, decide_eq_true_eq, List.contains_iff_mem, List.mem_cons, List.not_mem_nil, or_false] at h
    rcases h with h | h
    · exact Or.inr (Or.inl ⟨rfl, h.1, h.2⟩)
    · rcases h with rfl | rfl | rfl | rfl | rfl | rfl <;> exact Or.inr (Or.inr ⟨rfl, by decide, by decide, by decide, by decide⟩)
  · exact Or.inl rfl
def nameB (s : ByteArray) : Bool := decide (1 ≤ s.size) && decide (s.size ≤ 80) && letterI (s.data.getD 0 0).toNat && s.data.toList.all fun b => okI b.toNat
set_option maxRecDepth 100000 in
set_option maxHeartbeats 1000000 in
theorem c_Name (s : ByteArray) (w : World) (h : nameB s = true) : Calls Try.prog 54 #[.string s] w fun e w' => e = .returned (.bool true) ∧ Drawn0 w w' := by
  simp only [nameB, Bool.and_eq_true, decide_eq_true_eq, List.all_eq_true] at h
  obtain ⟨⟨⟨h0, h2⟩, hl⟩, ha⟩ := h
  have hl : letterI (s[0].toNat : Int) = true := by
    have e : s.data.getD 0 0 = s[0] := by
      rw [Array.getD_eq_getD_getElem?, Array.getElem?_eq_getElem (show 0 < s.data.size from h0)]; rfl
    rw [← e]; exact hl
  have HA := Lib.hid (show ∀ (i : Nat) (hi : i < s.size), okI (s[i].toNat : Int) = true from fun i hi => ha _ (by
    show s.data[i] ∈ s.data.toList
    exact Array.getElem_mem_toList hi))
  clear ha
  have h : s.toList.isEmpty = false := by
    rw [ByteArray.toList_eq]
    have : s.data.toList.length = s.size := rfl
    cases hd : s.data.toList with
    | nil => rw [hd] at this; simp at this; omega
    | cons a b => rfl
  have h2 : ¬ 80 < (s.size : Int) := by omega
  have h1 : ¬ s.toList = [] := by intro e; rw [e] at h; cases h
  have h3 : ¬ s.size ≤ 0 := by omega
  go_enter Try.func54, Try.ntmps54
  go_wp2_with fail
  refine (c_letter _ _).mono ?_
  rintro e w1 ⟨rfl, rfl⟩
  rw [hl]
  go_wp2_with fail
  go_loopw [22] (fun v W => ∃ j : Nat, v = .int .i64 j ∧ j ≤ s.size ∧ Drawn0 w1 W) (fun v _ => s.size - (intOf v).toNat)
  case atStart => exact ⟨0, rfl, Nat.zero_le _, Drawn0.refl _⟩
  case round =>
    obtain ⟨j, rfl, hj, hd⟩ := hrel
    have HD := Lib.hid hd
    clear hd
    by_cases hlt : j < s.size
    · have hlt' : (j : Int) < (s.size : Int) := by omega
      have hj0 : (0 : Int) ≤ (j : Int) := by omega
      have hjs : ¬ s.size ≤ j := by omega
      have hok := okI_cases (HA.out j hlt)
      go_wp2_with fail
      refine (c_letter _ _).mono ?_
      rintro e w2 ⟨rfl, rfl⟩
      rcases hok with hk | ⟨hk, hk2, hk3⟩ | ⟨hk, hk2, hk3, hk4, hk5⟩
      · rw [hk]
        go_wp2_with fail
        go_roundw
        case rel => exact ⟨j + 1, by rw [Int.natCast_add]; rfl, by omega, by repeat (first | exact HD.out | apply Drawn0.step)⟩
        case measure => simp [intOf]; omega
      · rw [hk]
        go_wp2_with fail
        go_roundw
        case rel => exact ⟨j + 1, by rw [Int.natCast_add]; rfl, by omega, by repeat (first | exact HD.out | apply Drawn0.step)⟩
        case measure => simp [intOf]; omega
      · rw [hk]
        rcases hk2 with hk2 | hk2
        · go_wp2_with fail
          refine (Try.strings_ContainsRune_ascii _ _ _ hk3 hk4).mono ?_
          rintro e w3 ⟨rfl, rfl⟩
          rw [hk5]
          go_wp2_with fail
          go_roundw
          case rel => exact ⟨j + 1, by rw [Int.natCast_add]; rfl, by omega, by repeat (first | exact HD.out | apply Drawn0.step)⟩
          case measure => simp [intOf]; omega
        · go_wp2_with fail
          refine (Try.strings_ContainsRune_ascii _ _ _ hk3 hk4).mono ?_
          rintro e w3 ⟨rfl, rfl⟩
          rw [hk5]
          go_wp2_with fail
          go_roundw
          case rel => exact ⟨j + 1, by rw [Int.natCast_add]; rfl, by omega, by repeat (first | exact HD.out | apply Drawn0.step)⟩
          case measure => simp [intOf]; omega
    · have hlt' : ¬ (j : Int) < (s.size : Int) := by omega
      go_wp2_with fail
      go_ret
      exact ⟨rfl, HD.out⟩
def expr_Name.f (s : ByteArray) : Option Bool := if nameB s = true then some true else none
theorem expr_Name.calls (a0 : ByteArray) (r : Bool) (w : World) (h : expr_Name.f a0 = some r) : Calls Try.prog 54 #[.string a0] w fun e w' => e = .returned (.bool r) ∧ Drawn0 w w' := by
  unfold expr_Name.f at h
  split at h
  · cases h
    exact c_Name a0 w (by assumption)
  · cases h
end Go.Proofs.Ytmfcefakpfbaoaa.PMatch
end
