/- Lemmas for RowBltAny. -/
import Derived.Test.YtmfcefakpfbaoaaQE
section
set_option linter.unusedVariables false
set_option linter.unusedSimpArgs false
namespace Go.Proofs.Ytmfcefakpfbaoaa.PMatch
open Go.RowKit Go.Proofs.YtmfcefakpfbaoaaW.PrintWords Go.Proofs.YtmfcefakpfbaoaaW.PrintLast Go.Proofs.YtmfcefakpfbaoaaW.PrintMore
set_option maxRecDepth 100000 in
set_option maxHeartbeats 1000000 in
theorem r_letter (c : Int) (w : World) : Calls Try.prog 83 #[.int .u8 c] w fun e w' => e = .returned (.bool (letterI c)) ∧ w' = w := by
  by_cases h1 : 97 ≤ c <;> by_cases h2 : c ≤ 122 <;> by_cases h3 : 65 ≤ c <;> by_cases h4 : c ≤ 90 <;> first | (exfalso; omega) | skip
  all_goals
    go_enter Try.func83, Try.ntmps83
    go_wp2_with fail
    go_ret
    exact ⟨by simp only [letterI]; simp; omega, rfl⟩
def digitI (c : Int) : Bool := decide (48 ≤ c) && decide (c ≤ 57)
set_option maxRecDepth 100000 in
set_option maxHeartbeats 1000000 in
theorem r_digit (c : Int) (w : World) : Calls Try.prog 84 #[.int .u8 c] w fun e w' => e = .returned (.bool (digitI c)) ∧ w' = w := by
  by_cases h1 : 48 ≤ c <;> by_cases h2 : c ≤ 57 <;> first | (exfalso; omega) | skip
  all_goals
    go_enter Try.func84, Try.ntmps84
    go_wp2_with fail
    go_ret
    exact ⟨by simp only [digitI]; simp; omega, rfl⟩
theorem okI_eq (c : Int) : okI c = (letterI c || digitI c || decide (c = 95) || decide (c = 46) || decide (c = 91) || decide (c = 93) || decide (c = 44) || decide (c = 39)) := by
  unfold okI digitI
  simp only [List.contains_cons, List.contains_nil, Bool.or_false, Bool.or_assoc]
  simp only [BEq.beq, decide_eq_true_eq]
theorem nameB_all {s : ByteArray} (h0 : 1 ≤ s.size) (h1 : s.size ≤ 80) (h2 : ∀ h : 0 < s.size, letterI (s[0].toNat : Int) = true) (h3 : ∀ (j : Nat) (hj : j < s.size), okI (s[j].toNat : Int) = true) : nameB s = true := by
  have e : s.data.getD 0 0 = s[0]'(by omega) := by
    rw [Array.getD_eq_getD_getElem?, Array.getElem?_eq_getElem (show 0 < s.data.size from h0)]; rfl
  unfold nameB
  rw [e, h2 h0, decide_eq_true h0, decide_eq_true h1]
  simp only [Bool.true_and, List.all_eq_true]
  intro b hb
  obtain ⟨j, hj, rfl⟩ := List.getElem_of_mem hb
  exact h3 j (by simpa using hj)
theorem nameB_some {s : ByteArray} (h : nameB s = true) : 1 ≤ s.size ∧ s.size ≤ 80 ∧ (∀ h : 0 < s.size, letterI (s[0].toNat : Int) = true) ∧ ∀ (j : Nat) (hj : j < s.size), okI (s[j].toNat : Int) = true := by
  simp only [nameB, Bool.and_eq_true, decide_eq_true_eq, List.all_eq_true] at h
  obtain ⟨⟨⟨h0, h1⟩, hl⟩, ha⟩ := h
  refine ⟨h0, h1, fun h2 => ?_, fun j hj => ha _ (by show s.data[j] ∈ s.data.toList; exact Array.getElem_mem_toList hj)⟩
  have e : s.data.getD 0 0 = s[0] := by
    rw [Array.getD_eq_getD_getElem?, Array.getElem?_eq_getElem (show 0 < s.data.size from h0)]; rfl
  rw [← e]; exact hl
set_option maxRecDepth 100000 in
set_option maxHeartbeats 2000000 in
theorem r_IsName (s : ByteArray) (w : World) : Calls Try.prog 51 #[.string s] w fun e w' => e = .returned (.bool (nameB s)) ∧ w' = w := by
  by_cases h0 : s.size < 1
  · have hn : nameB s = false := by
      cases h : nameB s
      · rfl
      · have := (nameB_some h).1; omega
    rw [hn]
    have h0' : (s.size : Int) < 1 := by omega
    go_enter Try.func51, Try.ntmps51
    go_wp2_with fail
    go_ret
    exact ⟨rfl, rfl⟩
  · by_cases h1 : 80 < s.size
    · have hn : nameB s = false := by
        cases h : nameB s
        · rfl
        · have := (nameB_some h).2.1; omega
      rw [hn]
      have h0' : ¬ (s.size : Int) < 1 := by omega
      have h1' : (80 : Int) < (s.size : Int) := by omega
      go_enter Try.func51, Try.ntmps51
      go_wp2_with fail
      go_ret
      exact ⟨rfl, rfl⟩
    · have h0' : ¬ (s.size : Int) < 1 := by omega
      have h1' : ¬ (80 : Int) < (s.size : Int) := by omega
      have h3 : ¬ s.size ≤ 0 := by omega
      have h4 : 0 < s.size := by omega
      go_enter Try.func51, Try.ntmps51
      go_wp2_with fail
      refine (r_letter _ _).mono ?_
      rintro e w1 ⟨rfl, rfl⟩
      cases hl : letterI (s[0].toNat : Int)
      · have hn : nameB s = false := by
          cases h : nameB s
          · rfl
          · have := (nameB_some h).2.2.1 h4; rw [hl] at this; cases this
        have HN := Lib.hid hn
        clear hn
        go_wp2_with fail
        go_ret
        exact ⟨by rw [HN.out]; rfl, rfl⟩
      · have HL := Lib.hid hl
        clear hl
        go_wp2_with fail
        go_loopw [3] (fun v W => ∃ j : Nat, v = .int .i64 j ∧ j ≤ s.size ∧ W = w1 ∧ ∀ (i : Nat) (hi : i < s.size), i < j → okI (s[i].toNat : Int) = true) (fun v _ => s.size - (intOf v).toNat)
        case atStart => exact ⟨0, rfl, Nat.zero_le _, rfl, fun i _ h => absurd h (Nat.not_lt_zero _)⟩
        case round =>
          obtain ⟨j, rfl, hj, rfl, hok⟩ := hrel
          have HOK := Lib.hid hok
          clear hok
          by_cases hlt : j < s.size
          · have hlt' : (j : Int) < (s.size : Int) := by omega
            have hj0 : (0 : Int) ≤ (j : Int) := by omega
            have hjs : ¬ s.size ≤ j := by omega
            have hnext : okI (s[j].toNat : Int) = true → ∀ (i : Nat) (hi : i < s.size), i < j + 1 → okI (s[i].toNat : Int) = true := fun h i hi hij => by
              by_cases e : i < j
              · exact HOK.out i hi e
              · obtain rfl : i = j := by omega
                exact h
            have hfail : okI (s[j].toNat : Int) = false → nameB s = false := fun h => by
              cases hb : nameB s
              · rfl
              · have := (nameB_some hb).2.2.2 j hlt; rw [h] at this; cases this
            have HN := Lib.hid (And.intro hnext hfail)
            clear hnext hfail
            go_wp2_with fail
            refine (r_letter _ _).mono ?_
            rintro e w2 ⟨rfl, rfl⟩
            cases hl : letterI (s[j].toNat : Int)
            · go_wp2_with fail
              refine (r_digit _ _).mono ?_
              rintro e w2 ⟨rfl, rfl⟩
              cases hd : digitI (s[j].toNat : Int)
              · by_cases k1 : (s[j].toNat : Int) = 95
                · go_wp2_with fail
                  all_goals exact ⟨⟨j + 1, by rw [Int.natCast_add]; rfl, by omega, by first | trivial | rfl, HN.out.1 (by rw [okI_eq]; simp [k1])⟩, by simp [intOf]; omega⟩
                · by_cases k2 : (s[j].toNat : Int) = 46
                  · go_wp2_with fail
                    all_goals exact ⟨⟨j + 1, by rw [Int.natCast_add]; rfl, by omega, by first | trivial | rfl, HN.out.1 (by rw [okI_eq]; simp [k2])⟩, by simp [intOf]; omega⟩
                  · by_cases k3 : (s[j].toNat : Int) = 91
                    · go_wp2_with fail
                      all_goals exact ⟨⟨j + 1, by rw [Int.natCast_add]; rfl, by omega, by first | trivial | rfl, HN.out.1 (by rw [okI_eq]; simp [k3])⟩, by simp [intOf]; omega⟩
                    · by_cases k4 : (s[j].toNat : Int) = 93
                      · go_wp2_with fail
                        all_goals exact ⟨⟨j + 1, by rw [Int.natCast_add]; rfl, by omega, by first | trivial | rfl, HN.out.1 (by rw [okI_eq]; simp [k4])⟩, by simp [intOf]; omega⟩
                      · by_cases k5 : (s[j].toNat : Int) = 44
                        · go_wp2_with fail
                          all_goals exact ⟨⟨j + 1, by rw [Int.natCast_add]; rfl, by omega, by first | trivial | rfl, HN.out.1 (by rw [okI_eq]; simp [k5])⟩, by simp [intOf]; omega⟩
                        · by_cases k6 : (s[j].toNat : Int) = 39
                          · go_wp2_with fail
                            all_goals exact ⟨⟨j + 1, by rw [Int.natCast_add]; rfl, by omega, by first | trivial | rfl, HN.out.1 (by rw [okI_eq]; simp [k6])⟩, by simp [intOf]; omega⟩
                          · have HF := Lib.hid (HN.out.2 (by rw [okI_eq, hl, hd, decide_eq_false k1, decide_eq_false k2, decide_eq_false k3, decide_eq_false k4, decide_eq_false k5, decide_eq_false k6]; rfl))
                            go_wp2_with fail
                            · go_ret
                              exact ⟨by rw [HF.out]; rfl, rfl⟩
                            · rename_i hq
                              exfalso
                              rcases hq with ((((hq | hq) | hq) | hq) | hq) | hq <;> (simp only [bne_eq_false_iff_eq] at hq) <;> contradiction
              · go_wp2_with fail
                all_goals exact ⟨⟨j + 1, by rw [Int.natCast_add]; rfl, by omega, by first | trivial | rfl, HN.out.1 (by rw [okI_eq]; simp [hd])⟩, by simp [intOf]; omega⟩
            · go_wp2_with fail
              all_goals exact ⟨⟨j + 1, by rw [Int.natCast_add]; rfl, by omega, by first | trivial | rfl, HN.out.1 (by rw [okI_eq]; simp [hl])⟩, by simp [intOf]; omega⟩
          · have hlt' : ¬ (j : Int) < (s.size : Int) := by omega
            have HT := Lib.hid (nameB_all (by omega) (by omega) (fun _ => HL.out) (fun i hi => HOK.out i hi (by omega)))
            go_wp2_with fail
            go_ret
            exact ⟨by rw [HT.out]; rfl, rfl⟩
def useB (a : ByteArray) (b : Int) (c : Bool) : Bool := nameB a && decide (0 ≤ b) && decide (b ≤ 6) && (!c || decide (b = 0))
set_option maxRecDepth 100000 in
set_option maxHeartbeats 2000000 in
theorem r_IsUse (a : ByteArray) (b : Int) (c : Bool) (w : World) : Calls Try.prog 52 #[.agg #[.string a, .int .i64 b, .bool c]] w fun e w' => e = .returned (.bool (useB a b c)) ∧ Below w.heap.size w w' := by
  have hu47 := Try.underlying47
  have hb : Below w.heap.size w (w.alloc (.cells #[.string a, .int .i64 b, .bool c] 47)) := (Below.refl _ _).alloc (Nat.le_refl _) _
  have HB := Lib.hid hb
  clear hb
  cases hn : nameB a
  · have HN := Lib.hid hn
    clear hn
    go_enter Try.func52, Try.ntmps52
    go_wp2_with fail
    refine (r_IsName _ _).mono ?_
    rintro e w1 ⟨rfl, rfl⟩
    rw [HN.out]
    go_wp2_with fail
    go_ret
    exact ⟨by unfold useB; rw [HN.out]; rfl, HB.out⟩
  · have HN := Lib.hid hn
    clear hn
    by_cases h0 : 0 ≤ b
    · by_cases h1 : b ≤ 6
      · cases c
        · go_enter Try.func52, Try.ntmps52
          go_wp2_with fail
          refine (r_IsName _ _).mono ?_
          rintro e w1 ⟨rfl, rfl⟩
          rw [HN.out]
          go_wp2_with fail
          go_ret
          exact ⟨by unfold useB; rw [HN.out, decide_eq_true h0, decide_eq_true h1]; rfl, HB.out⟩
        · by_cases h2 : b = 0
          · subst h2
            go_enter Try.func52, Try.ntmps52
            go_wp2_with fail
            refine (r_IsName _ _).mono ?_
            rintro e w1 ⟨rfl, rfl⟩
            rw [HN.out]
            go_wp2_with fail
            go_ret
            exact ⟨by unfold useB; rw [HN.out]; rfl, HB.out⟩
          · go_enter Try.func52, Try.ntmps52
            go_wp2_with fail
            refine (r_IsName _ _).mono ?_
            rintro e w1 ⟨rfl, rfl⟩
            rw [HN.out]
            go_wp2_with fail
            go_ret
            exact ⟨by unfold useB; rw [HN.out, decide_eq_true h0, decide_eq_true h1, decide_eq_false h2]; simp [h2], HB.out⟩
      · go_enter Try.func52, Try.ntmps52
        go_wp2_with fail
        refine (r_IsName _ _).mono ?_
        rintro e w1 ⟨rfl, rfl⟩
        rw [HN.out]
        go_wp2_with fail
        go_ret
        exact ⟨by unfold useB; rw [HN.out, decide_eq_true h0, decide_eq_false (show ¬ b ≤ 6 by omega)]; rfl, HB.out⟩
    · go_enter Try.func52, Try.ntmps52
      go_wp2_with fail
      refine (r_IsName _ _).mono ?_
      rintro e w1 ⟨rfl, rfl⟩
      rw [HN.out]
      go_wp2_with fail
      go_ret
      exact ⟨by unfold useB; rw [HN.out, decide_eq_false (show ¬ 0 ≤ b by omega)]; rfl, HB.out⟩
def befB (a : ByteArray) (b : Int) (c : Bool) (a' : ByteArray) (b' : Int) (c' : Bool) : Bool :=
  if a.toList = a'.toList then (if c = c' then decide (b < b') else c') else Op.bytesLess a.toList a'.toList
set_option maxRecDepth 100000 in
set_option maxHeartbeats 2000000 in
theorem r_Before (a : ByteArray) (b : Int) (c : Bool) (a' : ByteArray) (b' : Int) (c' : Bool) (w : World) : Calls Try.prog 53 #[.agg #[.string a, .int .i64 b, .bool c], .agg #[.string a', .int .i64 b', .bool c']] w fun e w' => e = .returned (.bool (befB a b c a' b' c')) ∧ Below w.heap.size w w' := by
  have hu47 := Try.underlying47
  have hb : Below w.heap.size w ((w.alloc (.cells #[.string a, .int .i64 b, .bool c] 47)).alloc (.cells #[.string a', .int .i64 b', .bool c'] 47)) := by
    have h := (Below.refl w.heap.size w).alloc (Nat.le_refl _) (.cells #[.string a, .int .i64 b, .bool c] 47)
    exact h.alloc h.size _
  have HB := Lib.hid hb
  clear hb
  go_enter Try.func53, Try.ntmps53
  go_wp2_with fail
  all_goals
    go_ret
    refine ⟨?_, HB.out⟩
    simp_all [befB]
end Go.Proofs.Ytmfcefakpfbaoaa.PMatch
end
