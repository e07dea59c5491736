/- The walk of the statement RatOrder. -/
import Derived.Test.YtpdghgfbfmaplaaDoorZXRatOrder
import Derived.IntWalk
import Derived.Deep.DeepCutAuto
set_option linter.unusedVariables false
set_option linter.unusedSimpArgs false
namespace Go.Proofs.YtpdghgfbfmaplaaDoor.Wh
open Go.RowKit Go.Proofs.YtpdghgfbfmaplaaDoor.Num Go.Proofs.YtpdghgfbfmaplaaDoor.Dec
section
variable {w : World}
theorem sgn_cases (q : Rat) : q.num.sign = -1 ∧ q < 0 ∨ q.num.sign = 0 ∧ q = 0 ∨ q.num.sign = 1 ∧ 0 < q := by
  rcases Int.lt_trichotomy q.num 0 with h | h | h
  · refine .inl ⟨Int.sign_eq_neg_one_of_neg h, ?_⟩
    rcases Rat.le_total (a := 0) (b := q) with h1 | h1
    · have : 0 ≤ q.num := Rat.num_nonneg.2 h1
      omega
    · by_cases h2 : q = 0
      · rw [h2] at h; exact absurd h (by decide)
      · grind
  · exact .inr (.inl ⟨by rw [h]; rfl, Rat.num_eq_zero.1 h⟩)
  · exact .inr (.inr ⟨Int.sign_eq_one_of_pos h, num_pos.1 h⟩)
theorem str_eq {s t : ByteArray} {q p : Rat} (hs : numB s = some q) (ht : numB t = some p) : (s.toList == t.toList) = decide (q = p) := by
  rw [ByteArray.toList_eq, ByteArray.toList_eq]
  by_cases h : q = p
  · rw [decide_eq_true h, beq_iff_eq, num_inj hs ht h]
  · rw [decide_eq_false h, beq_eq_false_iff_ne]
    intro h1
    have h2 : s = t := (bs_of h1).trans (bs_of (s := t) rfl).symm
    rw [h2, ht] at hs
    exact h (Option.some.inj hs).symm
theorem sgn_mul (q p : Rat) : (q * p).num.sign = q.num.sign * p.num.sign := by
  have key : ∀ u v : Rat, 0 < u → 0 < v → 0 < u * v := fun u v => Rat.mul_pos
  have neg : ∀ u : Rat, u < 0 → u.num.sign = -1 := fun u h => by
    rcases sgn_cases u with h1 | h1 | h1
    · exact h1.1
    · rw [h1.2] at h; exact absurd h (by decide)
    · have := h1.2; grind
  have pos : ∀ u : Rat, 0 < u → u.num.sign = 1 := fun u h => Int.sign_eq_one_of_pos (num_pos.2 h)
  rcases sgn_cases q with ⟨h1, h2⟩ | ⟨h1, h2⟩ | ⟨h1, h2⟩ <;> rcases sgn_cases p with ⟨h3, h4⟩ | ⟨h3, h4⟩ | ⟨h3, h4⟩
  · rw [h1, h3, pos]; rfl
    have := key (-q) (-p) (by grind) (by grind); grind
  · rw [h1, h3, h4, Rat.mul_zero]; rfl
  · rw [h1, h3, neg]; rfl
    have := key (-q) p (by grind) h4; grind
  · rw [h1, h3, h2, Rat.zero_mul]; rfl
  · rw [h1, h3, h2, Rat.zero_mul]; rfl
  · rw [h1, h3, h2, Rat.zero_mul]; rfl
  · rw [h1, h3, neg]; rfl
    have := key q (-p) h2 (by grind); grind
  · rw [h1, h3, h4, Rat.mul_zero]; rfl
  · rw [h1, h3, pos]; rfl
    exact key q p h2 h4
theorem sgn_neg (q : Rat) : (-q).num.sign = -q.num.sign := Int.sign_neg ..
set_option maxRecDepth 100000 in
set_option maxHeartbeats 8000000 in
theorem order_n1 (a b c : ByteArray) (ha : a.size ≤ 140737488351232) (hb : b.size ≤ 140737488351232) (hc : c.size ≤ 140737488351232) (h : rIs a = false) :
    Calls Tryd.prog 4 #[.string a, .string b, .string c] w fun e w' => e = .returned (.bool true) ∧ Below w.heap.size w w' := by
  have HA := Lib.hid ha
  have HB := Lib.hid hb
  have HC := Lib.hid hc
  clear ha hb hc
  have H1 := Lib.hid h
  clear h
  go_enter Tryd.func4, Tryd.ntmps4
  go_wp2_with fail
  refine (c_rIs' a HA.out H1.out).mono ?_
  rintro e w1 ⟨rfl, hb1⟩
  go_wp2_with fail
  refine (c_alive).mono ?_
  rintro e w2 ⟨rfl, hb2⟩
  go_wp2_with fail
  go_ret
  exact ⟨rfl, blq⟩
set_option maxRecDepth 100000 in
set_option maxHeartbeats 8000000 in
theorem order_n2 (a b c : ByteArray) (ha : a.size ≤ 140737488351232) (hb : b.size ≤ 140737488351232) (hc : c.size ≤ 140737488351232) (h : rIs a = true) (h2 : rIs b = false) :
    Calls Tryd.prog 4 #[.string a, .string b, .string c] w fun e w' => e = .returned (.bool true) ∧ Below w.heap.size w w' := by
  have HA := Lib.hid ha
  have HB := Lib.hid hb
  have HC := Lib.hid hc
  clear ha hb hc
  have H1 := Lib.hid h
  have H2 := Lib.hid h2
  clear h h2
  go_enter Tryd.func4, Tryd.ntmps4
  go_wp2_with fail
  refine (c_rIs' a HA.out H1.out).mono ?_
  rintro e w1 ⟨rfl, hb1⟩
  go_wp2_with fail
  refine (c_rIs' b HB.out H2.out).mono ?_
  rintro e w2 ⟨rfl, hb2⟩
  go_wp2_with fail
  refine (c_alive).mono ?_
  rintro e w3 ⟨rfl, hb3⟩
  go_wp2_with fail
  go_ret
  exact ⟨rfl, blq⟩
set_option maxRecDepth 100000 in
set_option maxHeartbeats 8000000 in
theorem order_n3 (a b c : ByteArray) (ha : a.size ≤ 140737488351232) (hb : b.size ≤ 140737488351232) (hc : c.size ≤ 140737488351232) (h : rIs a = true) (h2 : rIs b = true) (h3 : rIs c = false) :
    Calls Tryd.prog 4 #[.string a, .string b, .string c] w fun e w' => e = .returned (.bool true) ∧ Below w.heap.size w w' := by
  have HA := Lib.hid ha
  have HB := Lib.hid hb
  have HC := Lib.hid hc
  clear ha hb hc
  have H1 := Lib.hid h
  have H2 := Lib.hid h2
  have H3 := Lib.hid h3
  clear h h2 h3
  go_enter Tryd.func4, Tryd.ntmps4
  go_wp2_with fail
  refine (c_rIs' a HA.out H1.out).mono ?_
  rintro e w1 ⟨rfl, hb1⟩
  go_wp2_with fail
  refine (c_rIs' b HB.out H2.out).mono ?_
  rintro e w2 ⟨rfl, hb2⟩
  go_wp2_with fail
  refine (c_rIs' c HC.out H3.out).mono ?_
  rintro e w3 ⟨rfl, hb3⟩
  go_wp2_with fail
  refine (c_alive).mono ?_
  rintro e w4 ⟨rfl, hb4⟩
  go_wp2_with fail
  go_ret
  exact ⟨rfl, blq⟩
theorem ord_cases (q p r : Rat) : let x := (q - p).num.sign; let y := -(q - p).num.sign; let z := (p - r).num.sign; let v := (q - r).num.sign
    x = -1 ∧ y = 1 ∧ z = -1 ∧ v = -1 ∨ x = -1 ∧ y = 1 ∧ z = 0 ∧ v = -1 ∨ x = -1 ∧ y = 1 ∧ z = 1 ∨ x = 0 ∧ y = 0 ∧ z = -1 ∧ v = -1 ∨ x = 0 ∧ y = 0 ∧ z = 0 ∧ v = 0 ∨ x = 0 ∧ y = 0 ∧ z = 1 ∧ v = 1 ∨ x = 1 ∧ y = -1 ∧ z = -1 ∨ x = 1 ∧ y = -1 ∧ z = 0 ∧ v = 1 ∨ x = 1 ∧ y = -1 ∧ z = 1 ∧ v = 1 := by
  intro x y z v
  have h1 := sgn_cases (q - p)
  have h2 := sgn_cases (p - r)
  have h3 := sgn_cases (q - r)
  rcases h1 with ⟨h1, h4⟩ | ⟨h1, h4⟩ | ⟨h1, h4⟩ <;> rcases h2 with ⟨h2, h5⟩ | ⟨h2, h5⟩ | ⟨h2, h5⟩ <;> rcases h3 with ⟨h3, h6⟩ | ⟨h3, h6⟩ | ⟨h3, h6⟩ <;>
    first | (exfalso; grind) | (simp only [x, y, z, v, h1, h2, h3]; decide)
theorem sign_yes {b : ByteArray} {q : Rat} (hb : numB b = some q) : rSign b = (q.num.sign, 0) := by
  have h := cmp_yes hb (show numB (bsOf (strF 0)) = some 0 from numB_str (short_small (by decide) (by decide)))
  rw [show q - 0 = q by grind, strF_zero] at h
  rw [rSign]; exact h
theorem sgn_range (q : Rat) : q.num.sign = -1 ∨ q.num.sign = 0 ∨ q.num.sign = 1 := by
  rcases sgn_cases q with h | h | h
  · exact .inl h.1
  · exact .inr (.inl h.1)
  · exact .inr (.inr h.1)
set_option maxRecDepth 100000 in
set_option maxHeartbeats 8000000 in
theorem order_y (a b c : ByteArray) {qa qb qc : Rat} (na : numB a = some qa) (nb : numB b = some qb) (nc : numB c = some qc) :
    Calls Tryd.prog 4 #[.string a, .string b, .string c] w fun e w' => e = .returned (.bool true) ∧ Below w.heap.size w w' := by
  have sz := fun {s : ByteArray} {q : Rat} (h : numB s = some q) => (show s.size ≤ 140737488351232 from by have := num_size h; omega)
  have HA := Lib.hid (sz na)
  have HB := Lib.hid (sz nb)
  have HC := Lib.hid (sz nc)
  clear sz
  have HIA := Lib.hid (show rIs a = true by rw [rIs, na]; rfl)
  have HIB := Lib.hid (show rIs b = true by rw [rIs, nb]; rfl)
  have HIC := Lib.hid (show rIs c = true by rw [rIs, nc]; rfl)
  have hyx : (qb - qa).num.sign = -(qa - qb).num.sign := by rw [show qb - qa = -(qa - qb) by grind, sgn_neg]
  have e1 := cmp_yes na nb
  have e2 := cmp_yes nb na
  have e3 := cmp_yes nb nc
  have e4 := cmp_yes na nc
  rw [hyx] at e2
  obtain ⟨y, hyv⟩ : ∃ y, -(qa - qb).num.sign = y := ⟨_, rfl⟩
  rw [hyv] at e2
  have hD := ord_cases qa qb qc
  have hE : (a.toList == b.toList) = ((qa - qb).num.sign == 0) := by
    rw [str_eq na nb]
    by_cases h : qa = qb
    · rw [decide_eq_true h, h, show qb - qb = 0 by grind]; rfl
    · rw [decide_eq_false h]
      have h1 : ¬ (qa - qb).num.sign = 0 := by rw [Int.sign_eq_zero_iff_zero, Rat.num_eq_zero]; grind
      symm; simpa using h1
  have ra := res_num na
  have rb := res_num nb
  have rc := res_num nc
  obtain ⟨p, k1, e5⟩ : ∃ s k, rSum a c = (s, k) := ⟨_, _, rfl⟩
  obtain ⟨q, k2, e6⟩ : ∃ s k, rSum b c = (s, k) := ⟨_, _, rfl⟩
  obtain ⟨r, k3, e8⟩ : ∃ s k, rPrd a c = (s, k) := ⟨_, _, rfl⟩
  obtain ⟨s, k4, e9⟩ : ∃ s k, rPrd b c = (s, k) := ⟨_, _, rfl⟩
  obtain ⟨d, de, e10⟩ : ∃ s k, rSub a b = (s, k) := ⟨_, _, rfl⟩
  obtain ⟨n, ne, e11⟩ : ∃ s k, rSign d = (s, k) := ⟨_, _, rfl⟩
  have e7 := sign_yes nc
  have hX := sgn_range (qa - qb)
  have hS := sgn_range qc
  have h1 : k1 = true → k2 = true → rCmp p q = ((qa - qb).num.sign, 0) := fun h1 h2 => by
    have hp := res_sum ra rc e5 rfl rfl h1
    have hq := res_sum rb rc e6 rfl rfl h2
    rw [cmp_yes hp hq, show qa + qc - (qb + qc) = qa - qb by grind]
  have h2 : k3 = true → k4 = true → rCmp r s = ((qa - qb).num.sign * qc.num.sign, 0) := fun h1 h2 => by
    have hp := res_prd ra rc e8 rfl rfl h1
    have hq := res_prd rb rc e9 rfl rfl h2
    rw [cmp_yes hp hq, show qa * qc - qb * qc = (qa - qb) * qc by grind, sgn_mul]
  have h3 : de = 0 → n = (qa - qb).num.sign := fun h => by
    have hd : Res true d (qa - qb) := tell_res (by rw [← bin_yes na nb, show rBin (· - ·) a b = (d, de) from e10, h]; rfl)
    have := sign_yes (hd rfl)
    rw [e11] at this
    exact congrArg Prod.fst this
  have Z5 := Lib.hid (ok_size e5 (bin_size _ _ _))
  have Z6 := Lib.hid (ok_size e6 (bin_size _ _ _))
  have Z8 := Lib.hid (ok_size e8 (bin_size _ _ _))
  have Z9 := Lib.hid (ok_size e9 (bin_size _ _ _))
  have Z10 := Lib.hid (show d.size ≤ 140737488351232 from by have h := bin_size (· - ·) a b; rw [show rBin (· - ·) a b = (d, de) from e10] at h; exact Nat.le_trans h (by omega))
  obtain ⟨x, hx⟩ : ∃ x, (qa - qb).num.sign = x := ⟨_, rfl⟩
  obtain ⟨z, hz⟩ : ∃ x, (qb - qc).num.sign = x := ⟨_, rfl⟩
  obtain ⟨v, hv⟩ : ∃ x, (qa - qc).num.sign = x := ⟨_, rfl⟩
  obtain ⟨sg, hsg⟩ : ∃ x, qc.num.sign = x := ⟨_, rfl⟩
  simp only [hx, hz, hv, hsg] at e1 e3 e4 hD hyv hE hX hS h1 h2 h3 e7
  obtain ⟨kp, hp⟩ : ∃ k, (k1 && k2) = k := ⟨_, rfl⟩
  obtain ⟨kq, hq⟩ : ∃ k, (k3 && k4) = k := ⟨_, rfl⟩
  have HP := Lib.hid hp
  have HQ := Lib.hid hq
  simp only [hyv] at hD
  clear hyx hyv hx hz hv hsg hp hq ra rb rc na nb nc
  have E1 := Lib.hid e1
  have E2 := Lib.hid e2
  have E3 := Lib.hid e3
  have E4 := Lib.hid e4
  have E5 := Lib.hid e5
  have E6 := Lib.hid e6
  have E7 := Lib.hid e7
  have E8 := Lib.hid e8
  have E9 := Lib.hid e9
  have E10 := Lib.hid e10
  have E11 := Lib.hid e11
  have HD := Lib.hid hD
  have HE := Lib.hid hE
  have HX := Lib.hid hX
  have HS := Lib.hid hS
  have H1 := Lib.hid h1
  have H2 := Lib.hid h2
  have H3 := Lib.hid h3
  clear e1 e2 e3 e4 e5 e6 e7 e8 e9 e10 e11 hD hE hX hS h1 h2 h3
  go_enter Tryd.func4, Tryd.ntmps4
  go_wp2_with fail
  refine (c_rIs' a HA.out HIA.out).mono ?_
  rintro e w1 ⟨rfl, hb1⟩
  go_wp2_with fail
  refine (c_rIs' b HB.out HIB.out).mono ?_
  rintro e w2 ⟨rfl, hb2⟩
  go_wp2_with fail
  refine (c_rIs' c HC.out HIC.out).mono ?_
  rintro e w3 ⟨rfl, hb3⟩
  go_wp2_with fail
  refine (c_namedI E1.out (c_rCmp a b HA.out HB.out)).mono ?_
  rintro e w4 ⟨rfl, hb4⟩
  go_wp2_with fail
  refine (c_namedI E2.out (c_rCmp b a HB.out HA.out)).mono ?_
  rintro e w5 ⟨rfl, hb5⟩
  go_wp2_with fail
  refine (c_namedI E3.out (c_rCmp b c HB.out HC.out)).mono ?_
  rintro e w6 ⟨rfl, hb6⟩
  go_wp2_with fail
  refine (c_namedI E4.out (c_rCmp a c HA.out HC.out)).mono ?_
  rintro e w7 ⟨rfl, hb7⟩
  have HB7 := Lib.hid (show Below w.heap.size w w7 from blq)
  clear hb1 hb2 hb3 hb4 hb5 hb6 hb7
  go_upto_region 7 with fail
  go_cut [102] (fun v W => v = .bool false ∧ W = w7)
  case first => as_aux_lemma =>
    have hD := HD.out
    have hE := HE.out
    obtain ⟨rfl, rfl, rfl, rfl⟩ | ⟨rfl, rfl, rfl, rfl⟩ | ⟨rfl, rfl, rfl⟩ | ⟨rfl, rfl, rfl, rfl⟩ | ⟨rfl, rfl, rfl, rfl⟩ | ⟨rfl, rfl, rfl, rfl⟩ | ⟨rfl, rfl, rfl⟩ | ⟨rfl, rfl, rfl, rfl⟩ | ⟨rfl, rfl, rfl, rfl⟩ := hD
    all_goals first | replace hE : (a.toList == b.toList) = false := hE | replace hE : (a.toList == b.toList) = true := hE
    all_goals go_wp2_with fail
    all_goals go_meet
    all_goals exact ⟨rfl, rfl⟩
  case rest =>
    obtain ⟨rfl, rfl⟩ := hcut
    obtain ⟨w8, rfl⟩ : ∃ W : World, W = wc := ⟨_, rfl⟩
    go_wp2_with fail
    refine (c_sum HA.out HC.out E5.out).mono ?_
    rintro e w9 ⟨rfl, hb9⟩
    go_wp2_with fail
    refine (c_sum HB.out HC.out E6.out).mono ?_
    rintro e w10 ⟨rfl, hb10⟩
    have HB10 := Lib.hid (show Below w.heap.size w w10 from have hb0 := HB7.out; blq)
    clear hb9 hb10
    clear HB7
    go_upto_region 11 with fail
    go_cut [118] (fun v W => v = .bool kp ∧ W = w10)
    case first => as_aux_lemma =>
      cases k1 <;> cases k2
      all_goals obtain rfl := HP.out
      all_goals go_wp2_with fail
      all_goals go_meet
      all_goals exact ⟨rfl, rfl⟩
    case rest =>
      obtain ⟨rfl, rfl⟩ := hcut
      obtain ⟨w11, rfl⟩ : ∃ W : World, W = wc := ⟨_, rfl⟩
      go_upto_if 118 with fail
      go_cut [] (fun W => Below w11.heap.size w11 W)
      case first => as_aux_lemma =>
        cases kp
        · go_wp2_with fail
          go_meet
          exact Below.refl _ _
        · go_wp2_with fail
          refine (c_namedI (H1.out (Bool.and_eq_true_iff.1 HP.out).1 (Bool.and_eq_true_iff.1 HP.out).2) (c_rCmp p q Z5.out Z6.out)).mono ?_
          rintro e wz ⟨rfl, hbz⟩
          all_goals go_wp2_with fail
          all_goals go_meet
          all_goals exact hbz
      case rest =>
        have hbc := hcut
        obtain ⟨w12, rfl⟩ : ∃ W : World, W = wc := ⟨_, rfl⟩
        have HB12 := Lib.hid (show Below w.heap.size w w12 from have hb0 := HB10.out; blq)
        clear hbc hcut HB10
        go_wp2_with fail
        refine (c_namedI E7.out (c_rSign c HC.out)).mono ?_
        rintro e w13 ⟨rfl, hb13⟩
        go_wp2_with fail
        refine (c_prd HA.out HC.out E8.out).mono ?_
        rintro e w14 ⟨rfl, hb14⟩
        go_wp2_with fail
        refine (c_prd HB.out HC.out E9.out).mono ?_
        rintro e w15 ⟨rfl, hb15⟩
        have HB15 := Lib.hid (show Below w.heap.size w w15 from have hb0 := HB12.out; blq)
        clear hb13 hb14 hb15
        clear HB12
        go_upto_region 18 with fail
        go_cut [148] (fun v W => v = .bool kq ∧ W = w15)
        case first => as_aux_lemma =>
          cases k3 <;> cases k4
          all_goals obtain rfl := HQ.out
          all_goals go_wp2_with fail
          all_goals go_meet
          all_goals exact ⟨rfl, rfl⟩
        case rest =>
          obtain ⟨rfl, rfl⟩ := hcut
          obtain ⟨w16, rfl⟩ : ∃ W : World, W = wc := ⟨_, rfl⟩
          go_upto_if 148 with fail
          go_cut [] (fun W => Below w16.heap.size w16 W)
          case first => as_aux_lemma =>
            cases kq
            · go_wp2_with fail
              go_meet
              exact Below.refl _ _
            · go_wp2_with fail
              refine (c_namedI (H2.out (Bool.and_eq_true_iff.1 HQ.out).1 (Bool.and_eq_true_iff.1 HQ.out).2) (c_rCmp r s Z8.out Z9.out)).mono ?_
              rintro e wz ⟨rfl, hbz⟩
              have hX := HX.out
              have hS := HS.out
              obtain rfl | rfl | rfl := hX <;> obtain rfl | rfl | rfl := hS
              all_goals go_wp2_with fail
              all_goals go_meet
              all_goals exact hbz
          case rest =>
            have hbc := hcut
            obtain ⟨w17, rfl⟩ : ∃ W : World, W = wc := ⟨_, rfl⟩
            have HB17 := Lib.hid (show Below w.heap.size w w17 from have hb0 := HB15.out; blq)
            clear hbc hcut HB15
            go_wp2_with fail
            refine (c_named E10.out (c_rSub a b HA.out HB.out)).mono ?_
            rintro e w18 ⟨rfl, hb18⟩
            go_wp2_with fail
            refine (c_namedI E11.out (c_rSign d Z10.out)).mono ?_
            rintro e w19 ⟨rfl, hb19⟩
            have HB19 := Lib.hid (show Below w.heap.size w w19 from have hb0 := HB17.out; blq)
            clear hb18 hb19
            clear HB17
            by_cases h0 : de = 0
            · subst h0
              obtain rfl := H3.out rfl
              go_wp2_with fail
              refine c_alive.mono ?_
              rintro e wz ⟨rfl, hbz⟩
              go_wp2_with fail
              go_ret
              exact ⟨rfl, have hb0 := HB19.out; blq⟩
            · have h1 : (de == 0) = false := by simpa using h0
              go_wp2_with fail
              all_goals first | (exfalso; exact h0 (by with_reducible assumption)) | skip
              all_goals refine c_alive.mono ?_
              all_goals rintro e wz ⟨rfl, hbz⟩
              all_goals go_wp2_with fail
              all_goals go_ret
              all_goals exact ⟨rfl, have hb0 := HB19.out; blq⟩
theorem c_RatOrder (a b c : ByteArray) (ha : a.size ≤ 140737488351232) (hb : b.size ≤ 140737488351232) (hc : c.size ≤ 140737488351232) :
    Calls Tryd.prog 4 #[.string a, .string b, .string c] w fun e w' => e = .returned (.bool true) ∧ Below w.heap.size w w' := by
  cases na : numB a with
  | none => exact order_n1 a b c ha hb hc (by rw [rIs, na]; rfl)
  | some qa =>
    cases nb : numB b with
    | none => exact order_n2 a b c ha hb hc (by rw [rIs, na]; rfl) (by rw [rIs, nb]; rfl)
    | some qb =>
      cases nc : numB c with
      | none => exact order_n3 a b c ha hb hc (by rw [rIs, na]; rfl) (by rw [rIs, nb]; rfl) (by rw [rIs, nc]; rfl)
      | some qc => exact order_y a b c na nb nc
end
end Go.Proofs.YtpdghgfbfmaplaaDoor.Wh
