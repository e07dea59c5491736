/- The walk of the statement RatForm. -/
import Derived.Test.YtpdghgfbfmaplaaDoorZXRatForm
import Derived.IntWalk
import Derived.Deep.DeepCutAuto
set_option linter.unusedVariables false
set_option linter.unusedSimpArgs false
namespace Go.Proofs.YtpdghgfbfmaplaaDoor.Wh
open Go.RowKit Go.Proofs.YtpdghgfbfmaplaaDoorW.PrintWords Go.Proofs.YtpdghgfbfmaplaaDoor.Num Go.Proofs.YtpdghgfbfmaplaaDoor.Dec
section
variable {w : World}
def FRel (n : Nat) (w : World) (v : Value) (W : World) : Prop := ∃ l : List ByteArray, Kd.R Kd.string 9 W w.heap.size (fun _ => True) v l ∧ (∀ s ∈ l, ∃ q, numB s = some q) ∧ l.length ≤ n ∧ Below w.heap.size w W
theorem infoStr : (Tryd.prog.info? 9).map (fun i => (i.zero, i.size, i.bytes)) = some (some (.string ByteArray.empty), 1, 16) := by kernel_rfl
theorem tell_num {q : Rat} {s : ByteArray} (h : tellB q = (s, 0)) : ∃ p, numB s = some p := by
  obtain ⟨h1, h2⟩ := tell_yes (q := q) (by rw [h])
  rw [h2] at h
  injection h with h _
  exact ⟨q, by rw [← h]; exact numB_str h1⟩
theorem bin_num {f : Rat → Rat → Rat} {a b s : ByteArray} (h : rBin f a b = (s, 0)) : ∃ p, numB s = some p := by
  unfold rBin at h
  split at h
  · exact tell_num h
  · injection h with _ h; cases h
theorem un_num {f : Rat → Rat} {a s : ByteArray} (h : rUn f a = (s, 0)) : ∃ p, numB s = some p := by
  unfold rUn at h
  split at h
  · exact tell_num h
  · injection h with _ h; cases h
theorem div_num' {a b s : ByteArray} (h : rDiv a b = (s, 0)) : ∃ p, numB s = some p := by
  unfold rDiv at h
  split at h
  · injection h with _ h; cases h
  · exact bin_num h
theorem str_sgn {s t : ByteArray} {q p : Rat} (hs : numB s = some q) (ht : numB t = some p) : ∃ c, rCmp s t = (c, 0) ∧ (s.toList == t.toList) = (c == 0) := by
  refine ⟨_, cmp_yes hs ht, ?_⟩
  rw [ByteArray.toList_eq, ByteArray.toList_eq]
  by_cases h : q = p
  · rw [num_inj hs ht h, h, show p - p = 0 by grind]; simp
  · have h1 : ¬ (q - p).num.sign = 0 := by rw [Int.sign_eq_zero_iff_zero, Rat.num_eq_zero]; grind
    rw [show ((q - p).num.sign == 0) = false by simpa using h1, beq_eq_false_iff_ne]
    intro h2
    have h3 : s = t := (bs_of h2).trans (bs_of (s := t) rfl).symm
    rw [h3, ht] at hs
    exact h (Option.some.inj hs).symm
theorem frel0 : FRel 0 w (.slice (some ⟨w.heap.size, 0, none⟩) 0 0) (w.alloc (.cells #[] 9)) :=
  ⟨[], ⟨fun _ _ => trivial, OwnRow.lit (ps := []) (inner := []) w _ ⟨rfl, fun j p hj => by simp at hj⟩ (Nat.le_refl _) (by decide)⟩, by simp, Nat.le_refl 0, blq⟩
theorem str_cell {W : World} {ad : Addr} {l : List ByteArray} {k : Nat} {s : ByteArray} (h : Kd.string.C W (some ad) l.length l) (hk : l[k]? = some s) : W.cell? (ad.add k) = some (.string s) := by
  have hlt : k < l.length := (List.getElem?_eq_some_iff.1 hk).1
  have h1 := Kd.foot_string h (k : Int) (by omega) (by omega)
  rw [Int.toNat_natCast] at h1
  rw [h1]
  have h2 : rdOf ByteArray.empty l (k : Int) = s := by simp [rdOf, hk]
  rw [h2]
set_option maxRecDepth 100000 in
set_option maxHeartbeats 8000000 in
theorem form_y (a b : ByteArray) (ha : a.size ≤ 140737488351232) (hb : b.size ≤ 140737488351232) :
    Calls Tryd.prog 5 #[.string a, .string b] w fun e w' => e = .returned (.bool true) ∧ Below w.heap.size w w' := by
  have HA := Lib.hid ha
  have HB := Lib.hid hb
  obtain ⟨s0, e0, q0⟩ : ∃ s e, rAdd a b = (s, e) := ⟨_, _, rfl⟩
  have E0 := Lib.hid q0
  have M0 := Lib.hid (show e0 = 0 → ∃ q, numB s0 = some q from by rintro rfl; exact bin_num q0)
  obtain ⟨s1, e1, q1⟩ : ∃ s e, rSub a b = (s, e) := ⟨_, _, rfl⟩
  have E1 := Lib.hid q1
  have M1 := Lib.hid (show e1 = 0 → ∃ q, numB s1 = some q from by rintro rfl; exact bin_num q1)
  obtain ⟨s2, e2, q2⟩ : ∃ s e, rMul a b = (s, e) := ⟨_, _, rfl⟩
  have E2 := Lib.hid q2
  have M2 := Lib.hid (show e2 = 0 → ∃ q, numB s2 = some q from by rintro rfl; exact bin_num q2)
  obtain ⟨s3, e3, q3⟩ : ∃ s e, rDiv a b = (s, e) := ⟨_, _, rfl⟩
  have E3 := Lib.hid q3
  have M3 := Lib.hid (show e3 = 0 → ∃ q, numB s3 = some q from by rintro rfl; exact div_num' q3)
  obtain ⟨s4, e4, q4⟩ : ∃ s e, rFloor a = (s, e) := ⟨_, _, rfl⟩
  have E4 := Lib.hid q4
  have M4 := Lib.hid (show e4 = 0 → ∃ q, numB s4 = some q from by rintro rfl; exact un_num q4)
  clear q0 q1 q2 q3 q4 ha hb
  go_enter Tryd.func5, Tryd.ntmps5
  go_wp2_with fail
  refine (c_named E0.out (c_rAdd a b HA.out HB.out)).mono ?_
  rintro e w0 ⟨rfl, hb0⟩
  have HR := Lib.hid (Kd.R_below (w1 := w0) (show Kd.R Kd.string 9 (w.alloc (.cells #[] 9)) w.heap.size (fun _ => True) (.slice (some ⟨w.heap.size, 0, none⟩) 0 0) ([] : List ByteArray) from ⟨fun _ _ => trivial, OwnRow.lit (ps := []) (inner := []) w _ ⟨rfl, fun j p hj => by simp at hj⟩ (Nat.le_refl _) (by decide)⟩) hb0)
  have HBW := Lib.hid (show Below w.heap.size w w0 from blq)
  have HN := Lib.hid (show ∀ s ∈ ([] : List ByteArray), ∃ q, numB s = some q from by simp)
  have HL := Lib.hid (show ([] : List ByteArray).length ≤ 0 from Nat.le_refl 0)
  clear hb0
  go_upto_if 20 with fail
  go_cut [5] (fun v W => FRel 1 w v W)
  case first => as_aux_lemma =>
    by_cases h0 : e0 = 0
    · subst h0
      have HM := Lib.hid (M0.out rfl)
      go_wp2_with (at_builtin; go_must (refine Kd.R_append Kd.string (w0 := w) w.heap.size rfl (.tmp 21) (.tmp 23) 22 9 (.string ByteArray.empty) 16 rfl Tryd.underlying22 infoStr rfl (by decide) (by decide) (.slice (some ⟨w.heap.size, 0, none⟩) 0 0) ([] : List ByteArray) s0 [.string s0] (fun _ => True) (fun _ => False) rfl rfl rfl (fun _ hk => hk.elim) (fun _ _ => trivial) HR.out HBW.out HBW.out.size (by have := HL.out; first | (simp; done) | (simp; omega)) ?_); intro v9 w9 hr9 hb9 hg9 hat9; have HR9 := Lib.hid hr9; have HB9 := Lib.hid hb9; clear hr9 hb9 hg9 hat9)
      go_meet
      refine ⟨([] : List ByteArray) ++ [s0], HR9.out, fun t ht => (List.mem_append.1 ht).elim (fun h => HN.out t h) (fun h => by rw [List.mem_singleton.1 h]; exact HM.out), by have := HL.out; first | (simp; done) | (simp; omega), HB9.out⟩
    · have h1 : (e0 == 0) = false := by simpa using h0
      clear h0
      go_wp2_with fail
      go_meet
      exact ⟨([] : List ByteArray), HR.out, HN.out, by have := HL.out; omega, HBW.out⟩
  case rest =>
    clear HR HBW HN HL
    obtain ⟨l1, hR, hN, hl, hB⟩ := hcut
    obtain ⟨A1, c1, rfl⟩ := Kd.R_slice hR
    have HR := Lib.hid hR
    have HN := Lib.hid hN
    have HL := Lib.hid hl
    have HBW := Lib.hid hB
    clear hR hN hl hB
    obtain ⟨wd1, rfl⟩ : ∃ W : World, W = wc := ⟨_, rfl⟩
    go_wp2_with fail
    refine (c_named E1.out (c_rSub a b HA.out HB.out)).mono ?_
    rintro e w1 ⟨rfl, hb1⟩
    have HR := Lib.hid (Kd.R_below (w1 := w1) HR.out hb1)
    have HBW := Lib.hid (show Below w.heap.size w w1 from have hb0 := HBW.out; blq)
    clear hb1
    go_upto_if 32 with fail
    go_cut [5] (fun v W => FRel 2 w v W)
    case first => as_aux_lemma =>
      by_cases h0 : e1 = 0
      · subst h0
        have HM := Lib.hid (M1.out rfl)
        go_wp2_with (at_builtin; go_must (refine Kd.R_append Kd.string (w0 := w) w.heap.size rfl (.tmp 33) (.tmp 35) 22 9 (.string ByteArray.empty) 16 rfl Tryd.underlying22 infoStr rfl (by decide) (by decide) (.slice A1 l1.length c1) l1 s1 [.string s1] (fun _ => True) (fun _ => False) rfl rfl rfl (fun _ hk => hk.elim) (fun _ _ => trivial) HR.out HBW.out HBW.out.size (by have := HL.out; first | (simp; done) | (simp; omega)) ?_); intro v9 w9 hr9 hb9 hg9 hat9; have HR9 := Lib.hid hr9; have HB9 := Lib.hid hb9; clear hr9 hb9 hg9 hat9)
        go_meet
        refine ⟨l1 ++ [s1], HR9.out, fun t ht => (List.mem_append.1 ht).elim (fun h => HN.out t h) (fun h => by rw [List.mem_singleton.1 h]; exact HM.out), by have := HL.out; first | (simp; done) | (simp; omega), HB9.out⟩
      · have h1 : (e1 == 0) = false := by simpa using h0
        clear h0
        go_wp2_with fail
        go_meet
        exact ⟨l1, HR.out, HN.out, by have := HL.out; omega, HBW.out⟩
    case rest =>
      clear HR HBW HN HL
      obtain ⟨l2, hR, hN, hl, hB⟩ := hcut
      obtain ⟨A2, c2, rfl⟩ := Kd.R_slice hR
      have HR := Lib.hid hR
      have HN := Lib.hid hN
      have HL := Lib.hid hl
      have HBW := Lib.hid hB
      clear hR hN hl hB
      obtain ⟨wd2, rfl⟩ : ∃ W : World, W = wc := ⟨_, rfl⟩
      go_wp2_with fail
      refine (c_named E2.out (c_rMul a b HA.out HB.out)).mono ?_
      rintro e w2 ⟨rfl, hb2⟩
      have HR := Lib.hid (Kd.R_below (w1 := w2) HR.out hb2)
      have HBW := Lib.hid (show Below w.heap.size w w2 from have hb0 := HBW.out; blq)
      clear hb2
      go_upto_if 44 with fail
      go_cut [5] (fun v W => FRel 3 w v W)
      case first => as_aux_lemma =>
        by_cases h0 : e2 = 0
        · subst h0
          have HM := Lib.hid (M2.out rfl)
          go_wp2_with (at_builtin; go_must (refine Kd.R_append Kd.string (w0 := w) w.heap.size rfl (.tmp 45) (.tmp 47) 22 9 (.string ByteArray.empty) 16 rfl Tryd.underlying22 infoStr rfl (by decide) (by decide) (.slice A2 l2.length c2) l2 s2 [.string s2] (fun _ => True) (fun _ => False) rfl rfl rfl (fun _ hk => hk.elim) (fun _ _ => trivial) HR.out HBW.out HBW.out.size (by have := HL.out; first | (simp; done) | (simp; omega)) ?_); intro v9 w9 hr9 hb9 hg9 hat9; have HR9 := Lib.hid hr9; have HB9 := Lib.hid hb9; clear hr9 hb9 hg9 hat9)
          go_meet
          refine ⟨l2 ++ [s2], HR9.out, fun t ht => (List.mem_append.1 ht).elim (fun h => HN.out t h) (fun h => by rw [List.mem_singleton.1 h]; exact HM.out), by have := HL.out; first | (simp; done) | (simp; omega), HB9.out⟩
        · have h1 : (e2 == 0) = false := by simpa using h0
          clear h0
          go_wp2_with fail
          go_meet
          exact ⟨l2, HR.out, HN.out, by have := HL.out; omega, HBW.out⟩
      case rest =>
        clear HR HBW HN HL
        obtain ⟨l3, hR, hN, hl, hB⟩ := hcut
        obtain ⟨A3, c3, rfl⟩ := Kd.R_slice hR
        have HR := Lib.hid hR
        have HN := Lib.hid hN
        have HL := Lib.hid hl
        have HBW := Lib.hid hB
        clear hR hN hl hB
        obtain ⟨wd3, rfl⟩ : ∃ W : World, W = wc := ⟨_, rfl⟩
        go_wp2_with fail
        refine (c_named E3.out (c_rDiv a b HA.out HB.out)).mono ?_
        rintro e w3 ⟨rfl, hb3⟩
        have HR := Lib.hid (Kd.R_below (w1 := w3) HR.out hb3)
        have HBW := Lib.hid (show Below w.heap.size w w3 from have hb0 := HBW.out; blq)
        clear hb3
        go_upto_if 56 with fail
        go_cut [5] (fun v W => FRel 4 w v W)
        case first => as_aux_lemma =>
          by_cases h0 : e3 = 0
          · subst h0
            have HM := Lib.hid (M3.out rfl)
            go_wp2_with (at_builtin; go_must (refine Kd.R_append Kd.string (w0 := w) w.heap.size rfl (.tmp 57) (.tmp 59) 22 9 (.string ByteArray.empty) 16 rfl Tryd.underlying22 infoStr rfl (by decide) (by decide) (.slice A3 l3.length c3) l3 s3 [.string s3] (fun _ => True) (fun _ => False) rfl rfl rfl (fun _ hk => hk.elim) (fun _ _ => trivial) HR.out HBW.out HBW.out.size (by have := HL.out; first | (simp; done) | (simp; omega)) ?_); intro v9 w9 hr9 hb9 hg9 hat9; have HR9 := Lib.hid hr9; have HB9 := Lib.hid hb9; clear hr9 hb9 hg9 hat9)
            go_meet
            refine ⟨l3 ++ [s3], HR9.out, fun t ht => (List.mem_append.1 ht).elim (fun h => HN.out t h) (fun h => by rw [List.mem_singleton.1 h]; exact HM.out), by have := HL.out; first | (simp; done) | (simp; omega), HB9.out⟩
          · have h1 : (e3 == 0) = false := by simpa using h0
            clear h0
            go_wp2_with fail
            go_meet
            exact ⟨l3, HR.out, HN.out, by have := HL.out; omega, HBW.out⟩
        case rest =>
          clear HR HBW HN HL
          obtain ⟨l4, hR, hN, hl, hB⟩ := hcut
          obtain ⟨A4, c4, rfl⟩ := Kd.R_slice hR
          have HR := Lib.hid hR
          have HN := Lib.hid hN
          have HL := Lib.hid hl
          have HBW := Lib.hid hB
          clear hR hN hl hB
          obtain ⟨wd4, rfl⟩ : ∃ W : World, W = wc := ⟨_, rfl⟩
          go_wp2_with fail
          refine (c_named E4.out (c_rFloor a HA.out)).mono ?_
          rintro e w4 ⟨rfl, hb4⟩
          have HR := Lib.hid (Kd.R_below (w1 := w4) HR.out hb4)
          have HBW := Lib.hid (show Below w.heap.size w w4 from have hb0 := HBW.out; blq)
          clear hb4
          go_upto_if 67 with fail
          go_cut [5] (fun v W => FRel 5 w v W)
          case first => as_aux_lemma =>
            by_cases h0 : e4 = 0
            · subst h0
              have HM := Lib.hid (M4.out rfl)
              go_wp2_with (at_builtin; go_must (refine Kd.R_append Kd.string (w0 := w) w.heap.size rfl (.tmp 68) (.tmp 70) 22 9 (.string ByteArray.empty) 16 rfl Tryd.underlying22 infoStr rfl (by decide) (by decide) (.slice A4 l4.length c4) l4 s4 [.string s4] (fun _ => True) (fun _ => False) rfl rfl rfl (fun _ hk => hk.elim) (fun _ _ => trivial) HR.out HBW.out HBW.out.size (by have := HL.out; first | (simp; done) | (simp; omega)) ?_); intro v9 w9 hr9 hb9 hg9 hat9; have HR9 := Lib.hid hr9; have HB9 := Lib.hid hb9; clear hr9 hb9 hg9 hat9)
              go_meet
              refine ⟨l4 ++ [s4], HR9.out, fun t ht => (List.mem_append.1 ht).elim (fun h => HN.out t h) (fun h => by rw [List.mem_singleton.1 h]; exact HM.out), by have := HL.out; first | (simp; done) | (simp; omega), HB9.out⟩
            · have h1 : (e4 == 0) = false := by simpa using h0
              clear h0
              go_wp2_with fail
              go_meet
              exact ⟨l4, HR.out, HN.out, by have := HL.out; omega, HBW.out⟩
          case rest =>
            clear HR HBW HN HL
            obtain ⟨l5, hR, hN, hl, hB⟩ := hcut
            obtain ⟨A5, c5, rfl⟩ := Kd.R_slice hR
            have HR := Lib.hid hR
            have HN := Lib.hid hN
            have HL := Lib.hid hl
            have HBW := Lib.hid hB
            clear hR hN hl hB
            obtain ⟨wd5, rfl⟩ : ∃ W : World, W = wc := ⟨_, rfl⟩
            go_wp2_with fail
            have HC := Lib.hid (Kd.R_reads' HR.out).2.2
            clear HR
            go_loopw [8] (fun v W => ∃ k : Nat, v = .int .i64 k ∧ k ≤ l5.length ∧ Below wd5.heap.size wd5 W) (fun v _ => l5.length - (intOf v).toNat)
            case atStart => exact ⟨0, rfl, Nat.zero_le _, Below.refl _ _⟩
            case round =>
              obtain ⟨k, rfl, hk, hb⟩ := hrel
              obtain ⟨wo, rfl⟩ : ∃ wo : World, wo = wr := ⟨_, rfl⟩
              have HBR := Lib.hid hb
              clear hb
              by_cases hlt : k < l5.length
              · obtain ⟨s, hs⟩ : ∃ s, l5[k]? = some s := ⟨l5[k]'hlt, List.getElem?_eq_getElem _⟩
                obtain ⟨ad, rfl⟩ : ∃ ad, A5 = some ad := by obtain ⟨ad, h, _⟩ := Kd.at_string HC.out (k : Int) (by omega) (by omega); exact ⟨ad, h⟩
                obtain ⟨q, hq⟩ := HN.out s (List.mem_of_getElem? hs)
                have HS := Lib.hid hs
                have HQ := Lib.hid hq
                have HSZ := Lib.hid (show s.size ≤ 140737488351232 by have := num_size hq; omega)
                have HI := Lib.hid (show rIs s = true by rw [rIs, hq]; rfl)
                clear hs hq
                have hck := str_cell (Kd.C_below HC.out HBR.out) HS.out
                have hlt' : (k : Int) < (l5.length : Int) := by omega
                have hk0 : (0 : Int) ≤ (k : Int) := by omega
                go_wp2_with fail
                refine (c_rIs' s HSZ.out HI.out).mono ?_
                rintro e w2 ⟨rfl, hb2⟩
                have HB2 := Lib.hid (show Below wd5.heap.size wd5 w2 from have hb0 := HBR.out; blq)
                clear hb2 hck
                go_wp2_with fail
                go_loopw [9] (fun v W => ∃ m : Nat, v = .int .i64 m ∧ m ≤ l5.length ∧ Below wd5.heap.size wd5 W) (fun v _ => l5.length - (intOf v).toNat)
                case atStart => exact ⟨0, rfl, Nat.zero_le _, HB2.out⟩
                case round =>
                  obtain ⟨m, rfl, hm, hb⟩ := hrel
                  obtain ⟨wi, rfl⟩ : ∃ wo : World, wo = wr := ⟨_, rfl⟩
                  have HBI := Lib.hid hb
                  clear hb
                  by_cases hlm : m < l5.length
                  · obtain ⟨t, ht⟩ : ∃ s, l5[m]? = some s := ⟨l5[m]'hlm, List.getElem?_eq_getElem _⟩
                    obtain ⟨p, hp⟩ := HN.out t (List.mem_of_getElem? ht)
                    have HT := Lib.hid ht
                    have HTZ := Lib.hid (show t.size ≤ 140737488351232 by have := num_size hp; omega)
                    obtain ⟨c, hc, hst⟩ := str_sgn HQ.out hp
                    have HCM := Lib.hid hc
                    have HST := Lib.hid hst
                    clear ht hp hc hst
                    have hlm' : (m : Int) < (l5.length : Int) := by omega
                    have hm0 : (0 : Int) ≤ (m : Int) := by omega
                    have hck := str_cell (Kd.C_below HC.out HBI.out) HS.out
                    have hcm := str_cell (Kd.C_below HC.out HBI.out) HT.out
                    go_wp2_with fail
                    refine OrdL.begin_ (S := fun W => W.cell? (ad.add k) = some (.string s) ∧ W.cell? (ad.add m) = some (.string t)) [] [] (by kernel_rfl) ?_ (fun hHeld => ?_)
                    focus ((try dsimp only); exact ⟨hck, hcm⟩)
                    refine OrdL.take (i := 0) (d := (some 91)) (v := ?_) rfl rfl (by kernel_rfl) (by kernel_rfl) (by kernel_rfl) (by kernel_rfl) (fun _ _ _ h => h) (by assumption) ⟨by rfl, ?_⟩ ?_
                    rotate_left
                    focus (intro w hSw; (try dsimp only at hSw); go_simp; try with_reducible rfl)
                    (try simp only [Act.put, List.getElem_toArray, List.getElem_cons_zero, List.getElem_cons_succ, List.setIfInBounds_toArray, List.set_cons_zero, List.set_cons_succ])
                    refine OrdL.take (i := 1) (d := (some 92)) (v := ?_) rfl rfl (by kernel_rfl) (by kernel_rfl) (by kernel_rfl) (by kernel_rfl) (fun _ _ _ h => h) (by assumption) ⟨by rfl, ?_⟩ ?_
                    rotate_left
                    focus (intro w hSw; (try dsimp only at hSw); go_simp; try with_reducible rfl)
                    (try simp only [Act.put, List.getElem_toArray, List.getElem_cons_zero, List.getElem_cons_succ, List.setIfInBounds_toArray, List.set_cons_zero, List.set_cons_succ])
                    refine OrdL.take (i := 2) (d := (some 93)) (v := ?_) rfl rfl (by kernel_rfl) (by kernel_rfl) (by kernel_rfl) (by kernel_rfl) (fun _ _ _ h => h) (by assumption) ⟨by rfl, ?_⟩ ?_
                    rotate_left
                    focus (intro w hSw; (try dsimp only at hSw); go_simp; try with_reducible rfl)
                    (try simp only [Act.put, List.getElem_toArray, List.getElem_cons_zero, List.getElem_cons_succ, List.setIfInBounds_toArray, List.set_cons_zero, List.set_cons_succ])
                    refine OrdL.take (i := 3) (d := (some 94)) (v := ?_) rfl rfl (by kernel_rfl) (by kernel_rfl) (by kernel_rfl) (by kernel_rfl) (fun _ _ _ h => h) (by assumption) ⟨by rfl, ?_⟩ ?_
                    rotate_left
                    focus (intro w hSw; (try dsimp only at hSw); go_simp; try with_reducible rfl)
                    (try simp only [Act.put, List.getElem_toArray, List.getElem_cons_zero, List.getElem_cons_succ, List.setIfInBounds_toArray, List.set_cons_zero, List.set_cons_succ])
                    refine OrdL.take (i := 4) (d := (some 95)) (v := ?_) rfl rfl (by kernel_rfl) (by kernel_rfl) (by kernel_rfl) (by kernel_rfl) (fun _ _ _ h => h) (by assumption) ⟨by rfl, ?_⟩ ?_
                    rotate_left
                    focus (intro w hSw; (try dsimp only at hSw); go_simp; try with_reducible rfl)
                    (try simp only [Act.put, List.getElem_toArray, List.getElem_cons_zero, List.getElem_cons_succ, List.setIfInBounds_toArray, List.set_cons_zero, List.set_cons_succ])
                    refine OrdL.take (i := 5) (d := (some 96)) (v := ?_) rfl rfl (by kernel_rfl) (by kernel_rfl) (by kernel_rfl) (by kernel_rfl) (fun _ _ _ h => h) (by assumption) ⟨by rfl, ?_⟩ ?_
                    rotate_left
                    focus (intro w hSw; (try dsimp only at hSw); go_simp; try with_reducible rfl)
                    (try simp only [Act.put, List.getElem_toArray, List.getElem_cons_zero, List.getElem_cons_succ, List.setIfInBounds_toArray, List.set_cons_zero, List.set_cons_succ])
                    refine OrdL.take (i := 6) (d := (some 97)) (v := ?_) rfl rfl (by kernel_rfl) (by kernel_rfl) (by kernel_rfl) (by kernel_rfl) (fun _ _ _ h => h) (by assumption) ⟨by rfl, ?_⟩ ?_
                    rotate_left
                    focus (intro w hSw; (try dsimp only at hSw); go_simp; try with_reducible rfl)
                    (try simp only [Act.put, List.getElem_toArray, List.getElem_cons_zero, List.getElem_cons_succ, List.setIfInBounds_toArray, List.set_cons_zero, List.set_cons_succ])
                    refine OrdL.take (i := 7) (d := (some 98)) (v := ?_) rfl rfl (by kernel_rfl) (by kernel_rfl) (by kernel_rfl) (by kernel_rfl) (fun _ _ _ h => h) (by assumption) ⟨by rfl, ?_⟩ ?_
                    rotate_left
                    focus (intro w hSw; (try dsimp only at hSw); go_simp; try with_reducible rfl)
                    (try simp only [Act.put, List.getElem_toArray, List.getElem_cons_zero, List.getElem_cons_succ, List.setIfInBounds_toArray, List.set_cons_zero, List.set_cons_succ])
                    refine OrdL.step (i := 8) rfl (by decide) (by kernel_rfl) (fun Kc hKc => ?_)
                    simp only [List.getElem_toArray, List.getElem_cons_zero, List.getElem_cons_succ]
                    go_simp
                    refine (c_namedI HCM.out (c_rCmp s t HSZ.out HTZ.out)).mono ?_
                    rintro e w3 ⟨rfl, hb3⟩
                    have HB3 := Lib.hid (show Below wd5.heap.size wd5 w3 from have hb0 := HBI.out; blq)
                    clear hb3
                    go_wp2_with fail
                    refine hKc.out _ _ ?_ (fun hHeld => ?_)
                    focus ((try dsimp only); exact ⟨str_cell (Kd.C_below HC.out HB3.out) HS.out, str_cell (Kd.C_below HC.out HB3.out) HT.out⟩)
                    clear hKc Kc
                    (try simp only [Act.put, List.getElem_toArray, List.getElem_cons_zero, List.getElem_cons_succ, List.setIfInBounds_toArray, List.set_cons_zero, List.set_cons_succ])
                    refine OrdL.take (i := 9) (d := (some 90)) (v := ?_) rfl rfl (by kernel_rfl) (by kernel_rfl) (by kernel_rfl) (by kernel_rfl) (fun _ _ _ h => h) (by assumption) ⟨by rfl, ?_⟩ ?_
                    rotate_left
                    focus (intro w hSw; (try dsimp only at hSw); go_simp; try with_reducible rfl)
                    (try simp only [Act.put, List.getElem_toArray, List.getElem_cons_zero, List.getElem_cons_succ, List.setIfInBounds_toArray, List.set_cons_zero, List.set_cons_succ])
                    refine OrdL.take (i := 10) (d := (some 100)) (v := ?_) rfl rfl (by kernel_rfl) (by kernel_rfl) (by kernel_rfl) (by kernel_rfl) (fun _ _ _ h => h) (by assumption) ⟨by rfl, ?_⟩ ?_
                    rotate_left
                    focus (intro w hSw; (try dsimp only at hSw); go_simp; try with_reducible rfl)
                    (try simp only [Act.put, List.getElem_toArray, List.getElem_cons_zero, List.getElem_cons_succ, List.setIfInBounds_toArray, List.set_cons_zero, List.set_cons_succ])
                    refine OrdL.take (i := 11) (d := (some 101)) (v := ?_) rfl rfl (by kernel_rfl) (by kernel_rfl) (by kernel_rfl) (by kernel_rfl) (fun _ _ _ h => h) (by assumption) ⟨by rfl, ?_⟩ ?_
                    rotate_left
                    focus (intro w hSw; (try dsimp only at hSw); go_simp; try with_reducible rfl)
                    (try simp only [Act.put, List.getElem_toArray, List.getElem_cons_zero, List.getElem_cons_succ, List.setIfInBounds_toArray, List.set_cons_zero, List.set_cons_succ])
                    refine OrdL.take (i := 12) (d := (some 10)) (v := ?_) rfl rfl (by kernel_rfl) (by kernel_rfl) (by kernel_rfl) (by kernel_rfl) (fun _ _ _ h => h) (by assumption) ⟨by rfl, ?_⟩ ?_
                    rotate_left
                    focus (intro w hSw; (try dsimp only at hSw); go_simp; try with_reducible rfl)
                    (try simp only [Act.put, List.getElem_toArray, List.getElem_cons_zero, List.getElem_cons_succ, List.setIfInBounds_toArray, List.set_cons_zero, List.set_cons_succ])
                    refine OrdL.take (i := 13) (d := (some 11)) (v := ?_) rfl rfl (by kernel_rfl) (by kernel_rfl) (by kernel_rfl) (by kernel_rfl) (fun _ _ _ h => h) (by assumption) ⟨by rfl, ?_⟩ ?_
                    rotate_left
                    focus (intro w hSw; (try dsimp only at hSw); go_simp; try with_reducible rfl)
                    (try simp only [Act.put, List.getElem_toArray, List.getElem_cons_zero, List.getElem_cons_succ, List.setIfInBounds_toArray, List.set_cons_zero, List.set_cons_succ])
                    refine OrdL.done (by kernel_rfl) ?_ _
                    have hck3 := str_cell (Kd.C_below HC.out HB3.out) HS.out
                    have hcm3 := str_cell (Kd.C_below HC.out HB3.out) HT.out
                    have hst := HST.out
                    go_wp2_with fail
                    refine OrdL.begin_ (S := fun W => W.cell? (ad.add k) = some (.string s) ∧ W.cell? (ad.add m) = some (.string t)) [] [] (by kernel_rfl) ?_ (fun hHeld => ?_)
                    focus ((try dsimp only); exact ⟨hck3, hcm3⟩)
                    refine OrdL.take (i := 0) (d := (some 102)) (v := ?_) rfl rfl (by kernel_rfl) (by kernel_rfl) (by kernel_rfl) (by kernel_rfl) (fun _ _ _ h => h) (by assumption) ⟨by rfl, ?_⟩ ?_
                    rotate_left
                    focus (intro w hSw; (try dsimp only at hSw); go_simp; try with_reducible rfl)
                    (try simp only [Act.put, List.getElem_toArray, List.getElem_cons_zero, List.getElem_cons_succ, List.setIfInBounds_toArray, List.set_cons_zero, List.set_cons_succ])
                    refine OrdL.take (i := 1) (d := (some 103)) (v := ?_) rfl rfl (by kernel_rfl) (by kernel_rfl) (by kernel_rfl) (by kernel_rfl) (fun _ _ _ h => h) (by assumption) ⟨by rfl, ?_⟩ ?_
                    rotate_left
                    focus (intro w hSw; (try dsimp only at hSw); go_simp; try with_reducible rfl)
                    (try simp only [Act.put, List.getElem_toArray, List.getElem_cons_zero, List.getElem_cons_succ, List.setIfInBounds_toArray, List.set_cons_zero, List.set_cons_succ])
                    refine OrdL.take (i := 2) (d := (some 104)) (v := ?_) rfl rfl (by kernel_rfl) (by kernel_rfl) (by kernel_rfl) (by kernel_rfl) (fun _ _ _ h => h) (by assumption) ⟨by rfl, ?_⟩ ?_
                    rotate_left
                    focus (intro w hSw; (try dsimp only at hSw); go_simp; try with_reducible rfl)
                    (try simp only [Act.put, List.getElem_toArray, List.getElem_cons_zero, List.getElem_cons_succ, List.setIfInBounds_toArray, List.set_cons_zero, List.set_cons_succ])
                    refine OrdL.take (i := 3) (d := (some 105)) (v := ?_) rfl rfl (by kernel_rfl) (by kernel_rfl) (by kernel_rfl) (by kernel_rfl) (fun _ _ _ h => h) (by assumption) ⟨by rfl, ?_⟩ ?_
                    rotate_left
                    focus (intro w hSw; (try dsimp only at hSw); go_simp; try with_reducible rfl)
                    (try simp only [Act.put, List.getElem_toArray, List.getElem_cons_zero, List.getElem_cons_succ, List.setIfInBounds_toArray, List.set_cons_zero, List.set_cons_succ])
                    refine OrdL.take (i := 4) (d := (some 106)) (v := ?_) rfl rfl (by kernel_rfl) (by kernel_rfl) (by kernel_rfl) (by kernel_rfl) (fun _ _ _ h => h) (by assumption) ⟨by rfl, ?_⟩ ?_
                    rotate_left
                    focus (intro w hSw; (try dsimp only at hSw); go_simp; try with_reducible rfl)
                    (try simp only [Act.put, List.getElem_toArray, List.getElem_cons_zero, List.getElem_cons_succ, List.setIfInBounds_toArray, List.set_cons_zero, List.set_cons_succ])
                    refine OrdL.take (i := 5) (d := (some 107)) (v := ?_) rfl rfl (by kernel_rfl) (by kernel_rfl) (by kernel_rfl) (by kernel_rfl) (fun _ _ _ h => h) (by assumption) ⟨by rfl, ?_⟩ ?_
                    rotate_left
                    focus (intro w hSw; (try dsimp only at hSw); go_simp; try with_reducible rfl)
                    (try simp only [Act.put, List.getElem_toArray, List.getElem_cons_zero, List.getElem_cons_succ, List.setIfInBounds_toArray, List.set_cons_zero, List.set_cons_succ])
                    refine OrdL.take (i := 6) (d := (some 108)) (v := ?_) rfl rfl (by kernel_rfl) (by kernel_rfl) (by kernel_rfl) (by kernel_rfl) (fun _ _ _ h => h) (by assumption) ⟨by rfl, ?_⟩ ?_
                    rotate_left
                    focus (intro w hSw; (try dsimp only at hSw); go_simp; try with_reducible rfl)
                    (try simp only [Act.put, List.getElem_toArray, List.getElem_cons_zero, List.getElem_cons_succ, List.setIfInBounds_toArray, List.set_cons_zero, List.set_cons_succ])
                    refine OrdL.take (i := 7) (d := (some 109)) (v := ?_) rfl rfl (by kernel_rfl) (by kernel_rfl) (by kernel_rfl) (by kernel_rfl) (fun _ _ _ h => h) (by assumption) ⟨by rfl, ?_⟩ ?_
                    rotate_left
                    focus (intro w hSw; (try dsimp only at hSw); go_simp; try with_reducible rfl)
                    (try simp only [Act.put, List.getElem_toArray, List.getElem_cons_zero, List.getElem_cons_succ, List.setIfInBounds_toArray, List.set_cons_zero, List.set_cons_succ])
                    refine OrdL.take (i := 8) (d := (some 110)) (v := ?_) rfl rfl (by kernel_rfl) (by kernel_rfl) (by kernel_rfl) (by kernel_rfl) (fun _ _ _ h => h) (by assumption) ⟨by rfl, ?_⟩ ?_
                    rotate_left
                    focus (intro w hSw; (try dsimp only at hSw); go_simp; try with_reducible rfl)
                    (try simp only [Act.put, List.getElem_toArray, List.getElem_cons_zero, List.getElem_cons_succ, List.setIfInBounds_toArray, List.set_cons_zero, List.set_cons_succ])
                    refine OrdL.take (i := 9) (d := (some 111)) (v := ?_) rfl rfl (by kernel_rfl) (by kernel_rfl) (by kernel_rfl) (by kernel_rfl) (fun _ _ _ h => h) (by assumption) ⟨by rfl, ?_⟩ ?_
                    rotate_left
                    focus (intro w hSw; (try dsimp only at hSw); go_simp; try with_reducible rfl)
                    (try simp only [Act.put, List.getElem_toArray, List.getElem_cons_zero, List.getElem_cons_succ, List.setIfInBounds_toArray, List.set_cons_zero, List.set_cons_succ])
                    refine OrdL.take (i := 10) (d := (some 112)) (v := ?_) rfl rfl (by kernel_rfl) (by kernel_rfl) (by kernel_rfl) (by kernel_rfl) (fun _ _ _ h => h) (by assumption) ⟨by rfl, ?_⟩ ?_
                    rotate_left
                    focus (intro w hSw; (try dsimp only at hSw); go_simp; try with_reducible rfl)
                    (try simp only [Act.put, List.getElem_toArray, List.getElem_cons_zero, List.getElem_cons_succ, List.setIfInBounds_toArray, List.set_cons_zero, List.set_cons_succ])
                    refine OrdL.take (i := 11) (d := (some 113)) (v := ?_) rfl rfl (by kernel_rfl) (by kernel_rfl) (by kernel_rfl) (by kernel_rfl) (fun _ _ _ h => h) (by assumption) ⟨by rfl, ?_⟩ ?_
                    rotate_left
                    focus (intro w hSw; (try dsimp only at hSw); go_simp; try with_reducible rfl)
                    (try simp only [Act.put, List.getElem_toArray, List.getElem_cons_zero, List.getElem_cons_succ, List.setIfInBounds_toArray, List.set_cons_zero, List.set_cons_succ])
                    refine OrdL.take (i := 12) (d := (some 114)) (v := ?_) rfl rfl (by kernel_rfl) (by kernel_rfl) (by kernel_rfl) (by kernel_rfl) (fun _ _ _ h => h) (by assumption) ⟨by rfl, ?_⟩ ?_
                    rotate_left
                    focus (intro w hSw; (try dsimp only at hSw); go_simp; try with_reducible rfl)
                    (try simp only [Act.put, List.getElem_toArray, List.getElem_cons_zero, List.getElem_cons_succ, List.setIfInBounds_toArray, List.set_cons_zero, List.set_cons_succ])
                    refine OrdL.take (i := 13) (d := (some 115)) (v := ?_) rfl rfl (by kernel_rfl) (by kernel_rfl) (by kernel_rfl) (by kernel_rfl) (fun _ _ _ h => h) (by assumption) ⟨by rfl, ?_⟩ ?_
                    rotate_left
                    focus (intro w hSw; (try dsimp only at hSw); go_simp; try with_reducible rfl)
                    (try simp only [Act.put, List.getElem_toArray, List.getElem_cons_zero, List.getElem_cons_succ, List.setIfInBounds_toArray, List.set_cons_zero, List.set_cons_succ])
                    refine OrdL.take (i := 14) (d := (some 116)) (v := ?_) rfl rfl (by kernel_rfl) (by kernel_rfl) (by kernel_rfl) (by kernel_rfl) (fun _ _ _ h => h) (by assumption) ⟨by rfl, ?_⟩ ?_
                    rotate_left
                    focus (intro w hSw; (try dsimp only at hSw); go_simp; try with_reducible rfl)
                    (try simp only [Act.put, List.getElem_toArray, List.getElem_cons_zero, List.getElem_cons_succ, List.setIfInBounds_toArray, List.set_cons_zero, List.set_cons_succ])
                    refine OrdL.take (i := 15) (d := (some 117)) (v := ?_) rfl rfl (by kernel_rfl) (by kernel_rfl) (by kernel_rfl) (by kernel_rfl) (fun _ _ _ h => h) (by assumption) ⟨by rfl, ?_⟩ ?_
                    rotate_left
                    focus (intro w hSw; (try dsimp only at hSw); go_simp; try with_reducible rfl)
                    (try simp only [Act.put, List.getElem_toArray, List.getElem_cons_zero, List.getElem_cons_succ, List.setIfInBounds_toArray, List.set_cons_zero, List.set_cons_succ])
                    refine OrdL.done (by kernel_rfl) ?_ _
                    have HB4 := Lib.hid (show Below wd5.heap.size wd5 w3.drew from have hb0 := HB3.out; blq)
                    have hl5 := HL.out
                    go_wp2_with fail
                    go_roundw
                    case rel => exact ⟨m + 1, by go_num, hlm, have hb0 := HB3.out; blq⟩
                    case measure => simp [intOf]; omega
                  · obtain rfl : m = l5.length := by omega
                    have hl5 := HL.out
                    go_wp2_with fail
                    go_roundw
                    case rel => exact ⟨k + 1, by go_num, hlt, HBI.out⟩
                    case measure => simp [intOf]; omega
              · obtain rfl : k = l5.length := by omega
                have HBX := Lib.hid (show Below w.heap.size w wo from bl_call (have hb0 := HBW.out; blq) HBR.out)
                go_wp2_with fail
                refine c_alive.mono ?_
                rintro e wz ⟨rfl, hbz⟩
                go_wp2_with fail
                go_ret
                exact ⟨rfl, have hb0 := HBX.out; blq⟩
theorem c_RatForm (a b : ByteArray) (ha : a.size ≤ 140737488351232) (hb : b.size ≤ 140737488351232) :
    Calls Tryd.prog 5 #[.string a, .string b] w fun e w' => e = .returned (.bool true) ∧ Below w.heap.size w w' := form_y a b ha hb
end
end Go.Proofs.YtpdghgfbfmaplaaDoor.Wh
