/- The walk of the statement RatField. -/
import Derived.Test.YtpdghgfbfmaplaaDoorZXRatField
import Derived.Deep.DeepCutAuto
set_option linter.unusedVariables false
set_option linter.unusedSimpArgs false
namespace Go.Proofs.YtpdghgfbfmaplaaDoor.Wh
open Go.RowKit Go.Proofs.YtpdghgfbfmaplaaDoor.Num Go.Proofs.YtpdghgfbfmaplaaDoor.Dec
section
variable {w : World}
theorem sum_comm (a b : ByteArray) : rSum b a = rSum a b := by
  rw [rSum, rSum, rAdd, rBin, rBin]
  cases numB a <;> cases numB b <;> simp [Rat.add_comm]
theorem prd_comm (a b : ByteArray) : rPrd b a = rPrd a b := by
  rw [rPrd, rPrd, rMul, rBin, rBin]
  cases numB a <;> cases numB b <;> simp [Rat.mul_comm]
theorem bt {k : Bool} (h : k = true) : Value.bool true = Value.bool k := by rw [h]
theorem bf {k : Bool} (h : ¬ k = true) : Value.bool false = Value.bool k := by rw [Bool.eq_false_iff.2 h]
theorem bn {x y : ByteArray} (h : x = y) : (Value.bool !x.toList == y.toList) = Value.bool false := by rw [h]; simp
theorem sign_zero {q : Rat} : q.num.sign = 0 ↔ q = 0 := by rw [Int.sign_eq_zero_iff_zero, Rat.num_eq_zero]
theorem div_zero' {a b : ByteArray} {q p : Rat} (ha : numB a = some q) (hb : numB b = some p) : rDiv a b = if p = 0 then (nob, 12) else tellB (q / p) := by
  unfold rDiv
  by_cases h : p = 0
  · rw [if_pos h, if_pos]
    refine ⟨?_, by rw [ha]; rfl⟩
    rw [(numB_some.1 hb).1, h, strF_zero]
  · rw [if_neg h, if_neg, bin_yes ha hb]
    rintro ⟨h1, -⟩
    apply h
    have h2 : numB (bsOf (strF 0)) = some 0 := numB_str (short_small (by decide) (by decide))
    rw [strF_zero, ← h1, hb] at h2
    exact Option.some.inj h2
theorem l_first (n : Nat) (a b c : ByteArray) (ha : a.size ≤ 140737488351232) (hb : b.size ≤ 140737488351232) (hc : c.size ≤ 140737488351232) (h : rIs a = false ∨ rIs b = false ∨ rIs c = false) : True := trivial
set_option maxRecDepth 100000 in
set_option maxHeartbeats 1000000 in
theorem field_n (a b c : ByteArray) (ha : a.size ≤ 140737488351232) (hb : b.size ≤ 140737488351232) (hc : c.size ≤ 140737488351232) (h : rIs a = false ∨ rIs a = true ∧ rIs b = false ∨ rIs a = true ∧ rIs b = true ∧ rIs c = false) :
    Calls Tryd.prog 6 #[.string a, .string b, .string c] w fun e w' => e = .returned (.bool true) ∧ Below w.heap.size w w' := by
  have HA := Lib.hid ha
  have HB := Lib.hid hb
  have HC := Lib.hid hc
  clear ha hb hc
  rcases h with h | ⟨h, h2⟩ | ⟨h, h2, h3⟩
  · have H1 := Lib.hid h
    clear h
    go_enter Tryd.func6, Tryd.ntmps6
    go_wp2_with fail
    refine (c_rIs' a HA.out H1.out).mono ?_
    rintro e w1 ⟨rfl, hb1⟩
    go_wp2_with fail
    refine c_alive.mono ?_
    rintro e w2 ⟨rfl, hb2⟩
    go_wp2_with fail
    go_ret
    exact ⟨rfl, blq⟩
  · have H1 := Lib.hid h
    have H2 := Lib.hid h2
    clear h h2
    go_enter Tryd.func6, Tryd.ntmps6
    go_wp2_with fail
    refine (c_rIs' a HA.out H1.out).mono ?_
    rintro e w1 ⟨rfl, hb1⟩
    go_wp2_with fail
    refine (c_rIs' b HB.out H2.out).mono ?_
    rintro e w2 ⟨rfl, hb2⟩
    go_wp2_with fail
    refine c_alive.mono ?_
    rintro e w3 ⟨rfl, hb3⟩
    go_wp2_with fail
    go_ret
    exact ⟨rfl, blq⟩
  · have H1 := Lib.hid h
    have H2 := Lib.hid h2
    have H3 := Lib.hid h3
    clear h h2 h3
    go_enter Tryd.func6, Tryd.ntmps6
    go_wp2_with fail
    refine (c_rIs' a HA.out H1.out).mono ?_
    rintro e w1 ⟨rfl, hb1⟩
    go_wp2_with fail
    refine (c_rIs' b HB.out H2.out).mono ?_
    rintro e w2 ⟨rfl, hb2⟩
    go_wp2_with fail
    refine (c_rIs' c HC.out H3.out).mono ?_
    rintro e w3 ⟨rfl, hb3⟩
    go_wp2_with fail
    refine c_alive.mono ?_
    rintro e w4 ⟨rfl, hb4⟩
    go_wp2_with fail
    go_ret
    exact ⟨rfl, blq⟩
set_option maxRecDepth 100000 in
set_option maxHeartbeats 8000000 in
theorem field_y (a b c : ByteArray) {qa qb qc : Rat} (na : numB a = some qa) (nb : numB b = some qb) (nc : numB c = some qc) :
    Calls Tryd.prog 6 #[.string a, .string b, .string c] w fun e w' => e = .returned (.bool true) ∧ Below w.heap.size w w' := by
  have sz := fun {s : ByteArray} {q : Rat} (h : numB s = some q) => (show s.size ≤ 140737488351232 from by have := num_size h; omega)
  have HA := Lib.hid (sz na)
  have HB := Lib.hid (sz nb)
  have HC := Lib.hid (sz nc)
  clear sz
  have HIA := Lib.hid (show rIs a = true by rw [rIs, na]; rfl)
  have HIB := Lib.hid (show rIs b = true by rw [rIs, nb]; rfl)
  have HIC := Lib.hid (show rIs c = true by rw [rIs, nc]; rfl)
  obtain ⟨ab, k1, e1⟩ : ∃ s k, rSum a b = (s, k) := ⟨_, _, rfl⟩
  have e2 : rSum b a = (ab, k1) := (sum_comm a b).trans e1
  obtain ⟨bc, k3, e3⟩ : ∃ s k, rSum b c = (s, k) := ⟨_, _, rfl⟩
  obtain ⟨x1, k4, e4⟩ : ∃ s k, rSum ab c = (s, k) := ⟨_, _, rfl⟩
  obtain ⟨y1, k5, e5⟩ : ∃ s k, rSum a bc = (s, k) := ⟨_, _, rfl⟩
  obtain ⟨p, k6, e6⟩ : ∃ s k, rPrd a b = (s, k) := ⟨_, _, rfl⟩
  have e7 : rPrd b a = (p, k6) := (prd_comm a b).trans e6
  obtain ⟨r, k8, e8⟩ : ∃ s k, rPrd a c = (s, k) := ⟨_, _, rfl⟩
  obtain ⟨s, k9, e9⟩ : ∃ s k, rPrd b c = (s, k) := ⟨_, _, rfl⟩
  obtain ⟨x2, m4, e10⟩ : ∃ s k, rPrd p c = (s, k) := ⟨_, _, rfl⟩
  obtain ⟨y2, m5, e11⟩ : ∃ t k, rPrd a s = (t, k) := ⟨_, _, rfl⟩
  obtain ⟨x3, n4, e12⟩ : ∃ s k, rPrd a bc = (s, k) := ⟨_, _, rfl⟩
  obtain ⟨y3, n5, e13⟩ : ∃ s k, rSum p r = (s, k) := ⟨_, _, rfl⟩
  obtain ⟨d, de, e14⟩ : ∃ s k, rSub a b = (s, k) := ⟨_, _, rfl⟩
  obtain ⟨x4, o4, e15⟩ : ∃ s k, rSum d b = (s, k) := ⟨_, _, rfl⟩
  obtain ⟨f, g, e16⟩ : ∃ s k, rDiv a b = (s, k) := ⟨_, _, rfl⟩
  obtain ⟨x5, o5, e17⟩ : ∃ s k, rPrd f b = (s, k) := ⟨_, _, rfl⟩
  obtain ⟨sg, se, e18⟩ : ∃ s k, rSign b = (s, k) := ⟨_, _, rfl⟩
  have ra := res_num na
  have rb := res_num nb
  have rc := res_num nc
  have H1 := Lib.hid (show k1 = true → k3 = true → k4 = true → k5 = true → x1 = y1 from fun h1 h3 h4 h5 =>
    num_inj (res_sum (res_sum ra rb e1 rfl rfl) rc e4 h1 rfl h4) (res_sum ra (res_sum rb rc e3 rfl rfl) e5 rfl h3 h5) (Rat.add_assoc ..))
  have H2 := Lib.hid (show k6 = true → k9 = true → m4 = true → m5 = true → x2 = y2 from fun h1 h3 h4 h5 =>
    num_inj (res_prd (res_prd ra rb e6 rfl rfl) rc e10 h1 rfl h4) (res_prd ra (res_prd rb rc e9 rfl rfl) e11 rfl h3 h5) (Rat.mul_assoc ..))
  have H3 := Lib.hid (show k3 = true → k6 = true → k8 = true → n4 = true → n5 = true → x3 = y3 from fun h3 h6 h8 h4 h5 =>
    num_inj (res_prd ra (res_sum rb rc e3 rfl rfl) e12 rfl h3 h4) (res_sum (res_prd ra rb e6 rfl rfl) (res_prd ra rc e8 rfl rfl) e13 h6 h8 h5) (Rat.mul_add ..))
  have H4 := Lib.hid (show de = 0 → o4 = true → x4 = a from fun h ho => by
    have h1 : rSub a b = tellB (qa - qb) := bin_yes na nb
    have hd : Res true d (qa - qb) := tell_res (by rw [← h1, e14, h]; rfl)
    exact num_inj (res_sum hd rb e15 rfl rfl ho) na (by grind))
  have H5 := Lib.hid (show g = 0 → o5 = true → x5 = a from fun h ho => by
    have h1 := div_zero' na nb
    rw [e16] at h1
    by_cases h0 : qb = 0
    · rw [if_pos h0] at h1
      injection h1 with _ h2
      omega
    · rw [if_neg h0] at h1
      have hd : Res true f (qa / qb) := tell_res (by rw [← h1, h]; rfl)
      exact num_inj (res_prd hd rb e17 rfl rfl ho) na (by grind))
  have H6 := Lib.hid (show (g == 12) = (sg == 0) from by
    have h1 := div_zero' na nb
    have h2 : rSign b = ((qb - 0).num.sign, 0) := by
      rw [rSign]; exact cmp_yes nb (by rw [← strF_zero]; exact numB_str (short_small (by decide) (by decide)))
    rw [e16] at h1
    rw [e18] at h2
    injection h2 with h2 _
    rw [show qb - 0 = qb by grind] at h2
    by_cases h0 : qb = 0
    · rw [if_pos h0] at h1
      injection h1 with _ h3
      rw [h2, h3, sign_zero.2 h0]; rfl
    · rw [if_neg h0] at h1
      have h3 : ¬ sg = 0 := by rw [h2, sign_zero]; exact h0
      have h4 : ¬ g = 12 := by
        have h5 : g = (tellB (qa / qb)).2 := congrArg Prod.snd h1
        rw [h5]
        unfold tellB
        split
        · show ¬ (0 : Int) = 12; decide
        · show ¬ (2 : Int) = 12; decide
      rw [show (g == 12) = false by simpa using h4, show (sg == 0) = false by simpa using h3])
  have hs := fun {u v : ByteArray} {k : Bool} {s : ByteArray} (h : rSum u v = (s, k)) => ok_size h (bin_size _ _ _)
  have hp := fun {u v : ByteArray} {k : Bool} {s : ByteArray} (h : rPrd u v = (s, k)) => ok_size h (bin_size _ _ _)
  have Z1 := Lib.hid (hs e1)
  have Z3 := Lib.hid (hs e3)
  have Z6 := Lib.hid (hp e6)
  have Z8 := Lib.hid (hp e8)
  have Z9 := Lib.hid (hp e9)
  have Z14 := Lib.hid (show d.size ≤ 140737488351232 from by have h := bin_size (· - ·) a b; rw [show rBin (· - ·) a b = (d, de) from e14] at h; exact Nat.le_trans h (by omega))
  have Z16 := Lib.hid (show f.size ≤ 140737488351232 from by have h := div_size a b; rw [e16] at h; exact Nat.le_trans h (by omega))
  have E1 := Lib.hid e1
  have E2 := Lib.hid e2
  have E3 := Lib.hid e3
  have E4 := Lib.hid e4
  have E5 := Lib.hid e5
  have E6 := Lib.hid e6
  have E7 := Lib.hid e7
  have E8 := Lib.hid e8
  have E9 := Lib.hid e9
  have E10 := Lib.hid e10
  have E11 := Lib.hid e11
  have E12 := Lib.hid e12
  have E13 := Lib.hid e13
  have E14 := Lib.hid e14
  have E15 := Lib.hid e15
  have E16 := Lib.hid e16
  have E17 := Lib.hid e17
  have E18 := Lib.hid e18
  clear e1 e2 e3 e4 e5 e6 e7 e8 e9 e10 e11 e12 e13 e14 e15 e16 e17 e18 hs hp ra rb rc na nb nc
  go_enter Tryd.func6, Tryd.ntmps6
  go_wp2_with fail
  refine (c_rIs' a HA.out HIA.out).mono ?_
  rintro e w1 ⟨rfl, hb1⟩
  go_wp2_with fail
  refine (c_rIs' b HB.out HIB.out).mono ?_
  rintro e w2 ⟨rfl, hb2⟩
  go_wp2_with fail
  refine (c_rIs' c HC.out HIC.out).mono ?_
  rintro e w3 ⟨rfl, hb3⟩
  go_wp2_with fail
  refine (c_sum HA.out HB.out E1.out).mono ?_
  rintro e w4 ⟨rfl, hb4⟩
  go_wp2_with fail
  refine (c_sum HB.out HA.out E2.out).mono ?_
  rintro e w5 ⟨rfl, hb5⟩
  go_wp2_with fail
  refine (c_sum HB.out HC.out E3.out).mono ?_
  rintro e w6 ⟨rfl, hb6⟩
  go_wp2_with fail
  refine (c_sum Z1.out HC.out E4.out).mono ?_
  rintro e w7 ⟨rfl, hb7⟩
  go_wp2_with fail
  refine (c_sum HA.out Z3.out E5.out).mono ?_
  rintro e w8 ⟨rfl, hb8⟩
  have HB8 := Lib.hid (show Below w.heap.size w w8 from blq)
  clear hb1 hb2 hb3 hb4 hb5 hb6 hb7 hb8
  go_upto_region 10 with fail
  go_cut [8, 10, 12, 14, 16, 97] (fun b8 b10 b12 b14 b16 v W => b8 = .bool k1 ∧ b10 = .bool k1 ∧ b12 = .bool k3 ∧ b14 = .bool k4 ∧ b16 = .bool k5 ∧ v = .bool false ∧ W = w8)
  case first => as_aux_lemma =>
    go_wp2_with fail
    all_goals go_meet
    all_goals refine ⟨?_, ?_, ?_, ?_, ?_, ?_, ?_⟩
    all_goals first
      | with_reducible rfl
      | exact bt (by with_reducible assumption)
      | exact bf (by with_reducible assumption)
      | exact bn (H1.out (by with_reducible assumption) (by with_reducible assumption) (by with_reducible assumption) (by with_reducible assumption))
      | fail
  case rest =>
    obtain ⟨rfl, rfl, rfl, rfl, rfl, rfl, rfl⟩ := hcut
    obtain ⟨w9, rfl⟩ : ∃ W : World, W = wc := ⟨_, rfl⟩
    go_wp2_with fail
    refine (c_prd HA.out HB.out E6.out).mono ?_
    rintro e w10 ⟨rfl, hb10⟩
    go_wp2_with fail
    refine (c_prd HB.out HA.out E7.out).mono ?_
    rintro e w11 ⟨rfl, hb11⟩
    go_wp2_with fail
    refine (c_prd HA.out HC.out E8.out).mono ?_
    rintro e w12 ⟨rfl, hb12⟩
    go_wp2_with fail
    refine (c_prd HB.out HC.out E9.out).mono ?_
    rintro e w13 ⟨rfl, hb13⟩
    go_wp2_with fail
    refine (c_prd Z6.out HC.out E10.out).mono ?_
    rintro e w14 ⟨rfl, hb14⟩
    go_wp2_with fail
    refine (c_prd HA.out Z9.out E11.out).mono ?_
    rintro e w15 ⟨rfl, hb15⟩
    have HB15 := Lib.hid (show Below w.heap.size w w15 from have hb0 := HB8.out; blq)
    clear hb10 hb11 hb12 hb13 hb14 hb15
    clear HB8
    go_upto_region 20 with fail
    go_cut [18, 20, 24, 14, 16, 156] (fun b18 b20 b24 b14 b16 v W => b18 = .bool k6 ∧ b20 = .bool k6 ∧ b24 = .bool k9 ∧ b14 = .bool m4 ∧ b16 = .bool m5 ∧ v = .bool false ∧ W = w15)
    case first => as_aux_lemma =>
      go_wp2_with fail
      all_goals go_meet
      all_goals refine ⟨?_, ?_, ?_, ?_, ?_, ?_, ?_⟩
      all_goals first
        | with_reducible rfl
        | exact bt (by with_reducible assumption)
        | exact bf (by with_reducible assumption)
        | exact bn (H2.out (by with_reducible assumption) (by with_reducible assumption) (by with_reducible assumption) (by with_reducible assumption))
        | fail
    case rest =>
      obtain ⟨rfl, rfl, rfl, rfl, rfl, rfl, rfl⟩ := hcut
      obtain ⟨w16, rfl⟩ : ∃ W : World, W = wc := ⟨_, rfl⟩
      go_wp2_with fail
      refine (c_prd HA.out Z3.out E12.out).mono ?_
      rintro e w17 ⟨rfl, hb17⟩
      go_wp2_with fail
      refine (c_sum Z6.out Z8.out E13.out).mono ?_
      rintro e w18 ⟨rfl, hb18⟩
      have HB18 := Lib.hid (show Below w.heap.size w w18 from have hb0 := HB15.out; blq)
      clear hb17 hb18
      clear HB15
      go_upto_region 24 with fail
      go_cut [12, 18, 20, 22, 14, 16, 186] (fun b12 b18 b20 b22 b14 b16 v W => b12 = .bool k3 ∧ b18 = .bool k6 ∧ b20 = .bool k6 ∧ b22 = .bool k8 ∧ b14 = .bool n4 ∧ b16 = .bool n5 ∧ v = .bool false ∧ W = w18)
      case first => as_aux_lemma =>
        go_wp2_with fail
        all_goals go_meet
        all_goals refine ⟨?_, ?_, ?_, ?_, ?_, ?_, ?_, ?_⟩
        all_goals first
          | with_reducible rfl
          | exact bt (by with_reducible assumption)
          | exact bf (by with_reducible assumption)
          | exact bn (H3.out (by with_reducible assumption) (by with_reducible assumption) (by with_reducible assumption) (by with_reducible assumption) (by with_reducible assumption))
          | fail
      case rest =>
        obtain ⟨rfl, rfl, rfl, rfl, rfl, rfl, rfl, rfl⟩ := hcut
        obtain ⟨w19, rfl⟩ : ∃ W : World, W = wc := ⟨_, rfl⟩
        go_wp2_with fail
        refine (c_named E14.out (c_rSub a b HA.out HB.out)).mono ?_
        rintro e w20 ⟨rfl, hb20⟩
        have HB20 := Lib.hid (show Below w.heap.size w w20 from have hb0 := HB18.out; blq)
        clear hb20
        clear HB18
        go_upto_if 194 with fail
        go_cut [] (fun W => Below w20.heap.size w20 W)
        case first => as_aux_lemma =>
          by_cases h0 : de = 0
          · subst h0
            go_wp2_with fail
            refine (c_sum Z14.out HB.out E15.out).mono ?_
            rintro e wz ⟨rfl, hbz⟩
            cases o4
            · go_wp2_with fail
              go_meet
              exact hbz
            · obtain rfl := H4.out (by first | rfl | trivial) rfl
              go_wp2_with fail
              go_meet
              exact hbz
          · have h1 : (de == 0) = false := by simpa using h0
            clear h0
            go_wp2_with fail
            go_meet
            exact Below.refl _ _
        case rest =>
          have hbc := hcut
          obtain ⟨w21, rfl⟩ : ∃ W : World, W = wc := ⟨_, rfl⟩
          have HB21 := Lib.hid (show Below w.heap.size w w21 from have hb0 := HB20.out; blq)
          clear hbc hcut HB20
          go_wp2_with fail
          refine (c_named E16.out (c_rDiv a b HA.out HB.out)).mono ?_
          rintro e w22 ⟨rfl, hb22⟩
          have HB22 := Lib.hid (show Below w.heap.size w w22 from have hb0 := HB21.out; blq)
          clear hb22
          clear HB21
          go_upto_if 214 with fail
          go_cut [] (fun W => Below w22.heap.size w22 W)
          case first => as_aux_lemma =>
            by_cases h0 : g = 0
            · subst h0
              go_wp2_with fail
              refine (c_prd Z16.out HB.out E17.out).mono ?_
              rintro e wz ⟨rfl, hbz⟩
              cases o5
              · go_wp2_with fail
                go_meet
                exact hbz
              · obtain rfl := H5.out (by first | rfl | trivial) rfl
                go_wp2_with fail
                go_meet
                exact hbz
            · have h1 : (g == 0) = false := by simpa using h0
              clear h0
              go_wp2_with fail
              go_meet
              exact Below.refl _ _
          case rest =>
            have hbc := hcut
            obtain ⟨w23, rfl⟩ : ∃ W : World, W = wc := ⟨_, rfl⟩
            have HB23 := Lib.hid (show Below w.heap.size w w23 from have hb0 := HB22.out; blq)
            clear hbc hcut HB22
            go_wp2_with fail
            refine (c_namedI E18.out (c_rSign b HB.out)).mono ?_
            rintro e w24 ⟨rfl, hb24⟩
            have h6 := H6.out
            go_wp2_with fail
            refine (c_alive).mono ?_
            rintro e w25 ⟨rfl, hb25⟩
            go_wp2_with fail
            go_ret
            exact ⟨rfl, have hb0 := HB23.out; blq⟩
theorem c_RatField (a b c : ByteArray) (ha : a.size ≤ 140737488351232) (hb : b.size ≤ 140737488351232) (hc : c.size ≤ 140737488351232) :
    Calls Tryd.prog 6 #[.string a, .string b, .string c] w fun e w' => e = .returned (.bool true) ∧ Below w.heap.size w w' := by
  cases na : numB a with
  | none => exact field_n a b c ha hb hc (.inl (by rw [rIs, na]; rfl))
  | some qa =>
    cases nb : numB b with
    | none => exact field_n a b c ha hb hc (.inr (.inl ⟨by rw [rIs, na]; rfl, by rw [rIs, nb]; rfl⟩))
    | some qb =>
      cases nc : numB c with
      | none => exact field_n a b c ha hb hc (.inr (.inr ⟨by rw [rIs, na]; rfl, by rw [rIs, nb]; rfl, by rw [rIs, nc]; rfl⟩))
      | some qc => exact field_y a b c na nb nc
end
end Go.Proofs.YtpdghgfbfmaplaaDoor.Wh
