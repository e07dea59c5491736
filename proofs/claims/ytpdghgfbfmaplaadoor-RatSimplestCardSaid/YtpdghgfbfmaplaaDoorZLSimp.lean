/- The walk of the statement RatSimplest. -/
import Derived.Test.YtpdghgfbfmaplaaDoorZXRatSimplest
import Derived.IntWalk
import Derived.Deep.DeepCutAuto
set_option linter.unusedVariables false
set_option linter.unusedSimpArgs false
namespace Go.Proofs.YtpdghgfbfmaplaaDoor.Wh
open Go.RowKit Go.Proofs.YtpdghgfbfmaplaaDoor.Num Go.Proofs.YtpdghgfbfmaplaaDoor.Dec
theorem den_le (c : Int) {k : Nat} (hk : 1 ≤ k) : ((c : Rat) / ((k : Int) : Rat)).den ≤ k := by
  have h0 : (0 : Int) < (k : Int) := by omega
  have e := (divInt_pos (z := c) h0).2
  rw [Rat.divInt_eq_div] at e
  have h1 := Int.ediv_le_self (a := (k : Int)) (Int.gcd c k : Nat) (by omega)
  omega
theorem step_law {q p s : Rat} (h : ∀ t, q ≤ t → t ≤ p → s.den ≤ t.den) {k : Nat} (hk : 1 ≤ k) (hk2 : k < s.den) :
    p < (((q * ((k : Int) : Rat) * (-1)).floor : Int) : Rat) * (-1) / ((k : Int) : Rat) := by
  have hkp : (0 : Rat) < ((k : Int) : Rat) := by exact_mod_cast (show (0 : Int) < (k : Int) by omega)
  have h1 := Rat.floor_le (q * ((k : Int) : Rat) * (-1))
  obtain ⟨f, hf⟩ : ∃ f, (q * ((k : Int) : Rat) * (-1)).floor = f := ⟨_, rfl⟩
  rw [hf] at h1 ⊢
  have e : ((f : Rat)) * (-1) / ((k : Int) : Rat) = ((-f : Int) : Rat) / ((k : Int) : Rat) := by rw [Rat.intCast_neg]; grind
  rw [e]
  have h2 : q ≤ ((-f : Int) : Rat) / ((k : Int) : Rat) := by
    refine Rat.not_lt.1 fun h3 => ?_
    have h4 := (Rat.mul_lt_mul_right hkp).2 h3
    rw [Rat.div_mul_cancel (by grind), Rat.intCast_neg] at h4
    grind
  refine Rat.not_le.1 fun h3 => ?_
  have h4 := h _ h2 h3
  have h5 := den_le (-f) hk
  omega
theorem simpQ_spec {q p : Rat} (h : 0 < q) (hl : q ≤ p) : q ≤ simpQ q p ∧ simpQ q p ≤ p ∧ ∀ t, q ≤ t → t ≤ p → (simpQ q p).den ≤ t.den := by
  obtain ⟨h1, h2, h3⟩ := simp_spec (q.den + p.den) q p h hl (Nat.le_refl _)
  exact ⟨h1, h2, fun t ht hu => (h3 t ht hu).1⟩
theorem sgn_sub {q p : Rat} : 0 < (q - p).num.sign ↔ p < q := by
  rw [Int.sign_pos_iff, num_pos]; constructor <;> intro h <;> grind
theorem simp_law {a b s : ByteArray} (h : rSimplest a b = (s, 0)) :
    ∃ q p t, numB a = some q ∧ numB b = some p ∧ numB s = some t ∧ q ≤ t ∧ t ≤ p ∧ ∀ u, q ≤ u → u ≤ p → t.den ≤ u.den := by
  unfold rSimplest at h
  cases na : numB a with
  | none => rw [na] at h; injection h with _ h; cases h
  | some q =>
    cases nb : numB b with
    | none => rw [na, nb] at h; injection h with _ h; cases h
    | some p =>
      rw [na, nb] at h
      dsimp only at h
      by_cases c1 : 0 < (q - p).num.sign
      · rw [if_pos c1] at h; injection h with _ h; cases h
      rw [if_neg c1] at h
      have hle : q ≤ p := Rat.not_lt.1 (fun h9 => c1 (sgn_sub.2 h9))
      have hq : ∀ u : Rat, u.num.sign ≤ 0 ↔ u ≤ 0 := fun u => by
        rw [← Int.not_lt, ← Rat.not_lt, ← num_pos, Int.sign_pos_iff]
      have hp : ∀ u : Rat, 0 ≤ u.num.sign ↔ 0 ≤ u := fun u => by
        rw [Int.sign_nonneg_iff, Rat.num_nonneg]
      by_cases c2 : q.num.sign ≤ 0 ∧ 0 ≤ p.num.sign
      · rw [if_pos c2] at h
        injection h with h _
        refine ⟨q, p, 0, rfl, rfl, ?_, (hq q).1 c2.1, (hp p).1 c2.2, fun u _ _ => ?_⟩
        · rw [← h, ← strF_zero]; exact numB_str (short_small (by decide) (by decide))
        · exact u.den_pos
      rw [if_neg c2] at h
      by_cases c3 : p.num.sign < 0
      · rw [if_pos c3] at h
        obtain ⟨h1, h2⟩ := tell_yes (q := -simpQ (-p) (-q)) (by rw [h])
        rw [h2] at h
        injection h with h _
        have hp0 : p < 0 := by rw [← Rat.not_le, ← hp]; omega
        obtain ⟨s1, s2, s3⟩ := simpQ_spec (q := -p) (p := -q) (by grind) (by grind)
        refine ⟨q, p, _, rfl, rfl, by rw [← h]; exact numB_str h1, by grind, by grind, fun u hu hv => ?_⟩
        have := s3 (-u) (by grind) (by grind)
        rwa [Rat.neg_den, ← Rat.neg_den u]
      · rw [if_neg c3] at h
        obtain ⟨h1, h2⟩ := tell_yes (q := simpQ q p) (by rw [h])
        rw [h2] at h
        injection h with h _
        have hq0 : 0 < q := by rw [← Rat.not_le, ← hq]; intro h9; exact c2 ⟨h9, by omega⟩
        obtain ⟨s1, s2, s3⟩ := simpQ_spec hq0 hle
        exact ⟨q, p, _, rfl, rfl, by rw [← h]; exact numB_str h1, s1, s2, s3⟩
section
variable {w : World}
theorem div_num {a b : ByteArray} {q p : Rat} (ha : numB a = some q) (hb : numB b = some p) : rDiv a b = if p = 0 then (nob, 12) else tellB (q / p) := by
  unfold rDiv
  by_cases h : p = 0
  · rw [if_pos h, if_pos]
    refine ⟨?_, by rw [ha]; rfl⟩
    rw [(numB_some.1 hb).1, h, strF_zero]
  · rw [if_neg h, if_neg, bin_yes ha hb]
    rintro ⟨h1, -⟩
    apply h
    have h2 : numB (bsOf (strF 0)) = some 0 := numB_str (short_small (by decide) (by decide))
    rw [strF_zero, ← h1, hb] at h2
    exact Option.some.inj h2
theorem simp_err {a b s : ByteArray} {e : Int} (h : rSimplest a b = (s, e)) (he : ¬ e = 0) :
    s = ⟨#[]⟩ ∧ (e = 1 ∧ rCmp a b = (0, 1) ∨ e = 3 ∧ rCmp a b = (1, 0) ∨ e = 2 ∧ ∃ x, rCmp a b = (x, 0)) := by
  unfold rSimplest at h
  have tl : ∀ q : Rat, tellB q = (s, e) → s = ⟨#[]⟩ ∧ e = 2 := fun q h1 => by
    unfold tellB at h1
    split at h1
    · injection h1 with _ h2; exact absurd h2.symm he
    · injection h1 with h2 h3; exact ⟨h2.symm, h3.symm⟩
  cases na : numB a with
  | none => rw [na] at h; injection h with h1 h2; exact ⟨h1.symm, .inl ⟨h2.symm, by rw [rCmp, na]⟩⟩
  | some q =>
    cases nb : numB b with
    | none => rw [na, nb] at h; injection h with h1 h2; exact ⟨h1.symm, .inl ⟨h2.symm, by rw [rCmp, na, nb]⟩⟩
    | some p =>
      rw [na, nb] at h
      dsimp only at h
      by_cases c1 : 0 < (q - p).num.sign
      · rw [if_pos c1] at h
        injection h with h1 h2
        refine ⟨h1.symm, .inr (.inl ⟨h2.symm, ?_⟩)⟩
        rw [cmp_yes na nb, Int.sign_eq_one_of_pos (Int.sign_pos_iff.1 c1)]
      rw [if_neg c1] at h
      by_cases c2 : q.num.sign ≤ 0 ∧ 0 ≤ p.num.sign
      · rw [if_pos c2] at h; injection h with _ h2; exact absurd h2.symm he
      rw [if_neg c2] at h
      by_cases c3 : p.num.sign < 0
      · rw [if_pos c3] at h
        obtain ⟨h1, h2⟩ := tl _ h
        exact ⟨h1, .inr (.inr ⟨h2, _, cmp_yes na nb⟩)⟩
      · rw [if_neg c3] at h
        obtain ⟨h1, h2⟩ := tl _ h
        exact ⟨h1, .inr (.inr ⟨h2, _, cmp_yes na nb⟩)⟩
theorem sgn_le {q p : Rat} (h : q ≤ p) : (q - p).num.sign = -1 ∨ (q - p).num.sign = 0 := by
  have h1 : ¬ 0 < (q - p).num.sign := fun h2 => absurd (sgn_sub.1 h2) (Rat.not_lt.2 h)
  rcases Int.lt_trichotomy (q - p).num 0 with h2 | h2 | h2
  · exact .inl (Int.sign_eq_neg_one_of_neg h2)
  · exact .inr (by rw [h2]; rfl)
  · exact absurd (by rw [Int.sign_eq_one_of_pos h2]; decide) h1
theorem make_small {k : Nat} (h1 : 1 ≤ k) (h2 : k ≤ 60) : rMake k 1 = (bsOf (strF ((k : Int) : Rat)), 0) ∧ numB (bsOf (strF ((k : Int) : Rat))) = some ((k : Int) : Rat) := by
  have e : Rat.divInt k 1 = ((k : Int) : Rat) := by rw [Rat.divInt_eq_div]; show ((k : Int) : Rat) / ((1 : Int) : Rat) = _; grind
  have hs : Short ((k : Int) : Rat) := by
    unfold Short
    rw [Rat.num_intCast, Rat.den_intCast]
    have hd : ∀ n : Nat, n ≤ 60 → (dec n).length ≤ 300 := fun n hn => Nat.le_trans (dec_len (n := n) (K := 1) (Nat.lt_of_le_of_lt hn (by decide))) (by decide)
    exact ⟨hd _ (by omega), hd _ (by omega)⟩
  refine ⟨?_, numB_str hs⟩
  rw [rMake, if_neg (by decide), e, tellB, if_pos hs]
theorem parts_yes {s : ByteArray} {q : Rat} (h : numB s = some q) : ∃ pn pd, rParts s = (pn, pd, 0) ∧ numB pd = some ((q.den : Int) : Rat) ∧ pd.size ≤ 602 := by
  have hs : Short ((q.den : Int) : Rat) := by
    have h1 := (numB_some.1 h).2.2
    unfold Short
    rw [Rat.num_intCast, Rat.den_intCast]
    exact ⟨h1, Nat.le_trans (dec_len (n := 1) (K := 1) (by decide)) (by decide)⟩
  have e : bsOf (dec q.den) = bsOf (strF ((q.den : Int) : Rat)) := by
    rw [strF, if_pos (Rat.den_intCast ..), Rat.num_intCast, strW, if_neg (by omega)]; rfl
  have hn : numB (bsOf (dec q.den)) = some ((q.den : Int) : Rat) := by rw [e]; exact numB_str hs
  exact ⟨_, bsOf (dec q.den), by rw [rParts, h], hn, num_size hn⟩
set_option maxRecDepth 100000 in
set_option maxHeartbeats 8000000 in
theorem simp_e1 (a b : ByteArray) (ha : a.size ≤ 140737488351232) (hb : b.size ≤ 140737488351232) (he : rSimplest a b = (⟨#[]⟩, 1)) (hc : rCmp a b = (0, 1)) :
    Calls Tryd.prog 9 #[.string a, .string b] w fun e w' => e = .returned (.bool true) ∧ Below w.heap.size w w' := by
  have HA := Lib.hid ha
  have HB := Lib.hid hb
  have HE := Lib.hid he
  have HC := Lib.hid hc
  clear ha hb he hc
  go_enter Tryd.func9, Tryd.ntmps9
  go_wp2_with fail
  refine (c_named HE.out (c_rSimplest a b HA.out HB.out)).mono ?_
  rintro e w1 ⟨rfl, hb1⟩
  go_wp2_with fail
  refine (c_namedI HC.out (c_rCmp a b HA.out HB.out)).mono ?_
  rintro e w2 ⟨rfl, hb2⟩
  go_wp2_with fail
  refine (c_alive).mono ?_
  rintro e w3 ⟨rfl, hb3⟩
  go_wp2_with fail
  go_ret
  exact ⟨rfl, blq⟩
set_option maxRecDepth 100000 in
set_option maxHeartbeats 8000000 in
theorem simp_e3 (a b : ByteArray) (ha : a.size ≤ 140737488351232) (hb : b.size ≤ 140737488351232) (he : rSimplest a b = (⟨#[]⟩, 3)) (hc : rCmp a b = (1, 0)) :
    Calls Tryd.prog 9 #[.string a, .string b] w fun e w' => e = .returned (.bool true) ∧ Below w.heap.size w w' := by
  have HA := Lib.hid ha
  have HB := Lib.hid hb
  have HE := Lib.hid he
  have HC := Lib.hid hc
  clear ha hb he hc
  go_enter Tryd.func9, Tryd.ntmps9
  go_wp2_with fail
  refine (c_named HE.out (c_rSimplest a b HA.out HB.out)).mono ?_
  rintro e w1 ⟨rfl, hb1⟩
  go_wp2_with fail
  refine (c_namedI HC.out (c_rCmp a b HA.out HB.out)).mono ?_
  rintro e w2 ⟨rfl, hb2⟩
  go_wp2_with fail
  refine (c_alive).mono ?_
  rintro e w3 ⟨rfl, hb3⟩
  go_wp2_with fail
  go_ret
  exact ⟨rfl, blq⟩
set_option maxRecDepth 100000 in
set_option maxHeartbeats 8000000 in
theorem simp_e2 (a b : ByteArray) (ha : a.size ≤ 140737488351232) (hb : b.size ≤ 140737488351232) {x : Int} (he : rSimplest a b = (⟨#[]⟩, 2)) (hc : rCmp a b = (x, 0)) :
    Calls Tryd.prog 9 #[.string a, .string b] w fun e w' => e = .returned (.bool true) ∧ Below w.heap.size w w' := by
  have HA := Lib.hid ha
  have HB := Lib.hid hb
  have HE := Lib.hid he
  have HC := Lib.hid hc
  clear ha hb he hc
  go_enter Tryd.func9, Tryd.ntmps9
  go_wp2_with fail
  refine (c_named HE.out (c_rSimplest a b HA.out HB.out)).mono ?_
  rintro e w1 ⟨rfl, hb1⟩
  go_wp2_with fail
  refine (c_namedI HC.out (c_rCmp a b HA.out HB.out)).mono ?_
  rintro e w2 ⟨rfl, hb2⟩
  go_wp2_with fail
  refine (c_alive).mono ?_
  rintro e w3 ⟨rfl, hb3⟩
  go_wp2_with fail
  go_ret
  exact ⟨rfl, blq⟩
set_option maxRecDepth 100000 in
set_option maxHeartbeats 8000000 in
theorem simp_y (a b : ByteArray) {s : ByteArray} (he : rSimplest a b = (s, 0)) :
    Calls Tryd.prog 9 #[.string a, .string b] w fun e w' => e = .returned (.bool true) ∧ Below w.heap.size w w' := by
  obtain ⟨q, p, t, na, nb, ns, l1, l2, hmin⟩ := simp_law he
  have sz := fun {s : ByteArray} {q : Rat} (h : numB s = some q) => (show s.size ≤ 140737488351232 from by have := num_size h; omega)
  have HA := Lib.hid (sz na)
  have HB := Lib.hid (sz nb)
  have HS := Lib.hid (sz ns)
  obtain ⟨x, hx, hx2⟩ : ∃ x, rCmp a s = (x, 0) ∧ (x = -1 ∨ x = 0) := ⟨_, cmp_yes na ns, sgn_le l1⟩
  obtain ⟨y, hy, hy2⟩ : ∃ y, rCmp s b = (y, 0) ∧ (y = -1 ∨ y = 0) := ⟨_, cmp_yes ns nb, sgn_le l2⟩
  obtain ⟨pn, pd, hpt, npd, hpd⟩ := parts_yes ns
  have HPT := Lib.hid (fun (W : World) => (show Calls Tryd.prog 25 #[.string s] W fun e w' => e = .returned (.tuple #[.string pn, .string pd, .int .i64 0]) ∧ Below W.heap.size W w' from by have h := c_rParts (w := W) s (sz ns); rw [hpt] at h; exact h))
  have HE := Lib.hid he
  have HX := Lib.hid hx
  have HY := Lib.hid hy
  have HX2 := Lib.hid hx2
  have HY2 := Lib.hid hy2
  have HPD := Lib.hid (show pd.size ≤ 140737488351232 by omega)
  have H := Lib.hid (show ∀ k : Nat, 1 ≤ k → k ≤ 60 → ∃ kq c, rMake k 1 = (kq, 0) ∧ kq.size ≤ 140737488351232 ∧ rCmp kq pd = (c, 0) ∧ (c < 0 → ∀ tt, rMul a kq = (tt, 0) → ∀ m me low up v, rMul tt ⟨#[45, 49]⟩ = (m, me) → rFloor m = (low, 0) → rMul low ⟨#[45, 49]⟩ = (up, 0) → rDiv up kq = (v, 0) → rCmp v b = (1, 0)) from by
    intro k h1 h2
    obtain ⟨e1, nk⟩ := make_small h1 h2
    refine ⟨_, _, e1, sz nk, cmp_yes nk npd, fun hc tt e2 m me low up v e3 e4 e5 e6 => ?_⟩
    have nm1 : numB ⟨#[45, 49]⟩ = some (-1) := by have h9 := numB_str (q := -1) (short_small (by decide) (by decide)); rwa [show bsOf (strF (-1)) = ⟨#[45, 49]⟩ from by rw [show strF (-1) = 45 :: dec 1 from rfl, dec_small (by decide)]; rfl] at h9
    have d1 : k < t.den := by
      have h3 : ((k : Int) : Rat) - ((t.den : Int) : Rat) < 0 := by
        rw [← Rat.not_le, ← Rat.num_nonneg]
        intro h4
        have := Int.sign_nonneg_iff.2 h4
        omega
      have h5 : ((k : Int) : Rat) < ((t.den : Int) : Rat) := by grind
      have h6 : (k : Int) < (t.den : Int) := by exact_mod_cast h5
      omega
    have res : ∀ {q : Rat} {s : ByteArray}, tellB q = (s, 0) → numB s = some q := fun {q s} h => by
      obtain ⟨h7, h8⟩ := tell_yes (q := q) (by rw [h])
      rw [h8] at h
      injection h with h _
      rw [← h]; exact numB_str h7
    have nt : numB tt = some (q * ((k : Int) : Rat)) := res (by rw [← e2, rMul, bin_yes na nk])
    have e3' : tellB (q * ((k : Int) : Rat) * (-1)) = (m, me) := by rw [← e3, rMul, bin_yes nt nm1]
    obtain ⟨fm, nfm⟩ : ∃ u, numB m = some u := by
      cases h9 : numB m with
      | some u => exact ⟨u, rfl⟩
      | none => rw [rFloor, rUn, h9] at e4; injection e4 with _ e4; cases e4
    have nm : numB m = some (q * ((k : Int) : Rat) * (-1)) := by
      unfold tellB at e3'
      split at e3'
      · rename_i hsh
        injection e3' with e3' _
        rw [← e3']; exact numB_str hsh
      · injection e3' with e3' _
        rw [← e3', numB_nob] at nfm
        cases nfm
    have nl : numB low = some (((q * ((k : Int) : Rat) * (-1)).floor : Int) : Rat) := res (by rw [← e4, rFloor, un_yes nm])
    have nu : numB up = some ((((q * ((k : Int) : Rat) * (-1)).floor : Int) : Rat) * (-1)) := res (by rw [← e5, rMul, bin_yes nl nm1])
    have k0 : ¬ ((k : Int) : Rat) = 0 := by
      intro h9
      have h10 : (k : Int) = 0 := by exact_mod_cast h9
      omega
    have nv : numB v = some ((((q * ((k : Int) : Rat) * (-1)).floor : Int) : Rat) * (-1) / ((k : Int) : Rat)) := res (by rw [← e6, div_num nu nk, if_neg k0])
    rw [cmp_yes nv nb, Int.sign_eq_one_of_pos (num_pos.2 (by have := step_law hmin h1 d1; grind))])
  clear he na nb ns l1 l2 hmin hx hy hx2 hy2 hpt npd hpd sz
  go_enter Tryd.func9, Tryd.ntmps9
  go_wp2_with fail
  refine (c_named HE.out (c_rSimplest a b HA.out HB.out)).mono ?_
  rintro e w1 ⟨rfl, hb1⟩
  go_wp2_with fail
  refine (c_namedI HX.out (c_rCmp a s HA.out HS.out)).mono ?_
  rintro e w2 ⟨rfl, hb2⟩
  go_wp2_with fail
  refine (c_namedI HY.out (c_rCmp s b HS.out HB.out)).mono ?_
  rintro e w3 ⟨rfl, hb3⟩
  have HB3 := Lib.hid (show Below w.heap.size w w3 from blq)
  clear hb1 hb2 hb3
  go_upto_region 7 with fail
  go_cut [86] (fun v W => v = .bool false ∧ W = w3)
  case first => as_aux_lemma =>
    have hX := HX2.out
    have hY := HY2.out
    obtain rfl | rfl := hX <;> obtain rfl | rfl := hY
    all_goals go_wp2_with fail
    all_goals go_meet
    all_goals exact ⟨rfl, rfl⟩
  case rest =>
    obtain ⟨rfl, rfl⟩ := hcut
    obtain ⟨w4, rfl⟩ : ∃ W : World, W = wc := ⟨_, rfl⟩
    go_wp2_with fail
    refine (HPT.out _).mono ?_
    rintro e w5 ⟨rfl, hb5⟩
    have HB5 := Lib.hid (show Below w.heap.size w w5 from have hb0 := HB3.out; blq)
    clear hb5
    clear HB3
    go_wp2_with fail
    go_loopw [16] (fun v W => ∃ k : Nat, v = .int .i64 k ∧ 1 ≤ k ∧ k ≤ 61 ∧ Below w5.heap.size w5 W) (fun v _ => 61 - (intOf v).toNat)
    case atStart => exact ⟨1, rfl, by omega, by omega, Below.refl _ _⟩
    case round =>
      obtain ⟨k, rfl, hk1, hk2, hb⟩ := hrel
      obtain ⟨wo, rfl⟩ : ∃ wo : World, wo = wr := ⟨_, rfl⟩
      have HBO := Lib.hid (show Below w.heap.size w wo from bl_call (have hb8 := HB5.out; blq) hb)
      have HBR := Lib.hid hb
      clear hb HB5
      by_cases hlt : (k : Int) ≤ 60
      · obtain ⟨kq, c, e1, hkq, e2, hfin⟩ := H.out k hk1 (by omega)
        have E1 := Lib.hid e1
        have E2 := Lib.hid e2
        have HK := Lib.hid hkq
        have HF := Lib.hid hfin
        clear e1 e2 hkq hfin
        go_wp2_with fail
        refine (c_named E1.out (c_rMake k 1 (by omega) (by omega) (by omega) (by omega))).mono ?_
        rintro e wa ⟨rfl, hba⟩
        go_wp2_with fail
        refine (c_namedI E2.out (c_rCmp kq pd HK.out HPD.out)).mono ?_
        rintro e wb ⟨rfl, hbb⟩
        by_cases hc : 0 ≤ c
        · go_wp2_with fail
          refine c_alive.mono ?_
          rintro e wz ⟨rfl, hbz⟩
          go_wp2_with fail
          go_ret
          exact ⟨rfl, have hb0 := HBO.out; blq⟩
        · obtain ⟨tt, f, e3⟩ : ∃ s k, rMul a kq = (s, k) := ⟨_, _, rfl⟩
          have HT := Lib.hid (show tt.size ≤ 140737488351232 from by have h := bin_size (· * ·) a kq; rw [show rBin (· * ·) a kq = (tt, f) from e3] at h; exact Nat.le_trans h (by omega))
          have E3 := Lib.hid e3
          clear e3
          have hc2 : c < 0 := by omega
          go_wp2_with fail
          refine (c_named E3.out (c_rMul a kq HA.out HK.out)).mono ?_
          rintro e wc ⟨rfl, hbc⟩
          by_cases h0 : f = 0
          · subst h0
            obtain ⟨m, me, e4⟩ : ∃ s k, rMul tt ⟨#[45, 49]⟩ = (s, k) := ⟨_, _, rfl⟩
            have HM := Lib.hid (show m.size ≤ 140737488351232 from by have h := bin_size (· * ·) tt ⟨#[45, 49]⟩; rw [show rBin (· * ·) tt ⟨#[45, 49]⟩ = (m, me) from e4] at h; exact Nat.le_trans h (by omega))
            obtain ⟨low, g, e5⟩ : ∃ s k, rFloor m = (s, k) := ⟨_, _, rfl⟩
            have HL := Lib.hid (show low.size ≤ 140737488351232 from by have h := un_size (fun x => (x.floor : Rat)) m; rw [show rUn (fun x => (x.floor : Rat)) m = (low, g) from e5] at h; exact Nat.le_trans h (by omega))
            obtain ⟨up, h, e6⟩ : ∃ s k, rMul low ⟨#[45, 49]⟩ = (s, k) := ⟨_, _, rfl⟩
            have HU := Lib.hid (show up.size ≤ 140737488351232 from by have h8 := bin_size (· * ·) low ⟨#[45, 49]⟩; rw [show rBin (· * ·) low ⟨#[45, 49]⟩ = (up, h) from e6] at h8; exact Nat.le_trans h8 (by omega))
            obtain ⟨v, i, e7⟩ : ∃ s k, rDiv up kq = (s, k) := ⟨_, _, rfl⟩
            have HV := Lib.hid (show v.size ≤ 140737488351232 from by have h8 := div_size up kq; rw [e7] at h8; exact Nat.le_trans h8 (by omega))
            have HG := Lib.hid (show g = 0 → h = 0 → i = 0 → rCmp v b = (1, 0) from by rintro rfl rfl rfl; exact HF.out hc2 tt E3.out m me low up v e4 e5 e6 e7)
            have E4 := Lib.hid e4
            have E5 := Lib.hid e5
            have E6 := Lib.hid e6
            have E7 := Lib.hid e7
            clear e4 e5 e6 e7
            go_wp2_with fail
            refine (c_named E4.out (c_rMul tt ⟨#[45, 49]⟩ HT.out (by decide))).mono ?_
            rintro e wd ⟨rfl, hbd⟩
            go_wp2_with fail
            refine (c_named E5.out (c_rFloor m HM.out)).mono ?_
            rintro e we ⟨rfl, hbe⟩
            go_wp2_with fail
            refine (c_named E6.out (c_rMul low ⟨#[45, 49]⟩ HL.out (by decide))).mono ?_
            rintro e wf ⟨rfl, hbf⟩
            go_wp2_with fail
            refine (c_named E7.out (c_rDiv up kq HU.out HK.out)).mono ?_
            rintro e wg ⟨rfl, hbg⟩
            have HBX := Lib.hid (show Below w.heap.size w wg from have hb0 := HBO.out; blq)
            have HBY := Lib.hid (show Below w5.heap.size w5 wg from have hb0 := HBR.out; blq)
            clear hba hbb hbc hbd hbe hbf hbg
            by_cases hg : g = 0
            · subst hg
              by_cases hh : h = 0
              · subst hh
                by_cases hi : i = 0
                · subst hi
                  have E8 := Lib.hid (HG.out rfl rfl rfl)
                  go_wp2_with fail
                  refine (c_namedI E8.out (c_rCmp v b HV.out HB.out)).mono ?_
                  rintro e wz ⟨rfl, hbz⟩
                  go_wp2_with fail
                  go_roundw
                  case rel => exact ⟨k + 1, by go_num, by omega, by omega, have hb0 := HBY.out; blq⟩
                  case measure => simp [intOf]; omega
                · have h1 : (i == 0) = false := by simpa using hi
                  clear hi
                  go_wp2_with fail
                  all_goals refine c_alive.mono ?_
                  all_goals rintro e wz ⟨rfl, hbz⟩
                  all_goals go_wp2_with fail
                  all_goals go_ret
                  all_goals exact ⟨rfl, have hb0 := HBX.out; blq⟩
              · have h1 : (h == 0) = false := by simpa using hh
                clear hh
                go_wp2_with fail
                all_goals refine c_alive.mono ?_
                all_goals rintro e wz ⟨rfl, hbz⟩
                all_goals go_wp2_with fail
                all_goals go_ret
                all_goals exact ⟨rfl, have hb0 := HBX.out; blq⟩
            · have h1 : (g == 0) = false := by simpa using hg
              clear hg
              go_wp2_with fail
              all_goals refine c_alive.mono ?_
              all_goals rintro e wz ⟨rfl, hbz⟩
              all_goals go_wp2_with fail
              all_goals go_ret
              all_goals exact ⟨rfl, have hb0 := HBX.out; blq⟩
          · have h1 : (f == 0) = false := by simpa using h0
            clear h0
            go_wp2_with fail
            refine c_alive.mono ?_
            rintro e wz ⟨rfl, hbz⟩
            go_wp2_with fail
            go_ret
            exact ⟨rfl, have hb0 := HBO.out; blq⟩
      · go_wp2_with fail
        refine c_alive.mono ?_
        rintro e wz ⟨rfl, hbz⟩
        go_wp2_with fail
        go_ret
        exact ⟨rfl, have hb0 := HBO.out; blq⟩
theorem c_RatSimplest (a b : ByteArray) (ha : a.size ≤ 140737488351232) (hb : b.size ≤ 140737488351232) :
    Calls Tryd.prog 9 #[.string a, .string b] w fun e w' => e = .returned (.bool true) ∧ Below w.heap.size w w' := by
  obtain ⟨s, e, he⟩ : ∃ s e, rSimplest a b = (s, e) := ⟨_, _, rfl⟩
  by_cases h0 : e = 0
  · subst h0; exact simp_y a b he
  · obtain ⟨rfl, ⟨rfl, hc⟩ | ⟨rfl, hc⟩ | ⟨rfl, x, hc⟩⟩ := simp_err he h0
    · exact simp_e1 a b ha hb he hc
    · exact simp_e3 a b ha hb he hc
    · exact simp_e2 a b ha hb he hc
end
end Go.Proofs.YtpdghgfbfmaplaaDoor.Wh
