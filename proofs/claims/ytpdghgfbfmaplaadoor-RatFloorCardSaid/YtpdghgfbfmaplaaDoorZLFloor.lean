/- The walk of the statement RatFloor. -/
import Derived.Test.YtpdghgfbfmaplaaDoorZXRatFloor
set_option linter.unusedVariables false
set_option maxRecDepth 100000
set_option maxHeartbeats 8000000
set_option linter.unusedSimpArgs false
namespace Go.Proofs.YtpdghgfbfmaplaaDoor.Wh
open Go.RowKit Go.Proofs.YtpdghgfbfmaplaaDoor.Num Go.Proofs.YtpdghgfbfmaplaaDoor.Dec
section
variable {w : World}
theorem floor_n (a : ByteArray) (ha : a.size ≤ 140737488351232) (na : numB a = none) :
    Calls Tryd.prog 7 #[.string a] w fun e w' => e = .returned (.bool true) ∧ Below w.heap.size w w' := by
  have HA := Lib.hid ha
  have HI := Lib.hid (show rIs a = false by rw [rIs, na]; rfl)
  have HC1 := Lib.hid (fun (W : World) => c_named (w := W) (s := ⟨#[]⟩) (n := 1) (show rFloor a = (⟨#[]⟩, 1) by rw [rFloor, rUn, na]; rfl) (c_rFloor a ha))
  have HC2 := Lib.hid (fun (W : World) => c_named (w := W) (s := ⟨#[]⟩) (n := 1) (show rRound a = (⟨#[]⟩, 1) by rw [rRound, rUn, na]; rfl) (c_rRound a ha))
  clear ha na
  go_enter Tryd.func7, Tryd.ntmps7
  go_wp2_with fail
  refine (HC1.out _).mono ?_
  rintro e w1 ⟨rfl, hb1⟩
  go_wp2_with fail
  refine (HC2.out _).mono ?_
  rintro e w2 ⟨rfl, hb2⟩
  go_wp2_with fail
  refine (c_rIs' a HA.out HI.out).mono ?_
  rintro e w3 ⟨rfl, hb3⟩
  go_wp2_with fail
  refine (c_alive).mono ?_
  rintro e w4 ⟨rfl, hb4⟩
  go_wp2_with fail
  go_ret
  exact ⟨rfl, blq⟩
theorem floor_e (a : ByteArray) {q : Rat} (na : numB a = some q) {f r : ByteArray} {e g : Int} (e1 : rFloor a = (f, e)) (e2 : rRound a = (r, g)) (he : ¬ e = 0) :
    Calls Tryd.prog 7 #[.string a] w fun e w' => e = .returned (.bool true) ∧ Below w.heap.size w w' := by
  have ha : a.size ≤ 140737488351232 := by have := num_size na; omega
  have HA := Lib.hid ha
  have HI := Lib.hid (show rIs a = true by rw [rIs, na]; rfl)
  have HC1 := Lib.hid (fun (W : World) => c_named (w := W) e1 (c_rFloor a ha))
  have HC2 := Lib.hid (fun (W : World) => c_named (w := W) e2 (c_rRound a ha))
  have HT1 : ¬ e = 1 := by
    have h1 : rFloor a = tellB ((q.floor : Int) : Rat) := un_yes na
    rw [e1] at h1
    have h2 : e = (tellB ((q.floor : Int) : Rat)).2 := congrArg Prod.snd h1
    rw [h2]; unfold tellB; split
    · show ¬ (0 : Int) = 1; decide
    · show ¬ (2 : Int) = 1; decide
  have HT2 : ¬ g = 1 := by
    have h1 : rRound a = tellB (roundQ q) := un_yes na
    rw [e2] at h1
    have h2 : g = (tellB (roundQ q)).2 := congrArg Prod.snd h1
    rw [h2]; unfold tellB; split
    · show ¬ (0 : Int) = 1; decide
    · show ¬ (2 : Int) = 1; decide
  have b3 : (e == 1) = false := by simpa using HT1
  have b4 : (g == 1) = false := by simpa using HT2
  have b5 : (e != 1) = true := bne_iff_ne.2 HT1
  have b6 : (g != 1) = true := bne_iff_ne.2 HT2
  have b1 : (e == 0) = false := by simpa using he
  have b7 : (e != 0) = true := bne_iff_ne.2 he
  clear he
  have HT1' := Lib.hid HT1
  have HT2' := Lib.hid HT2
  clear ha na e1 e2 HT1 HT2
  go_enter Tryd.func7, Tryd.ntmps7
  go_wp2_with fail
  refine (HC1.out _).mono ?_
  rintro e w1 ⟨rfl, hb1⟩
  go_wp2_with fail
  refine (HC2.out _).mono ?_
  rintro e w2 ⟨rfl, hb2⟩
  go_wp2_with fail
  refine (c_rIs' a HA.out HI.out).mono ?_
  rintro e w3 ⟨rfl, hb3⟩
  go_wp2_with fail
  refine (c_alive).mono ?_
  rintro e w4 ⟨rfl, hb4⟩
  go_wp2_with fail
  go_ret
  exact ⟨rfl, blq⟩
theorem floor_g (a : ByteArray) {q : Rat} (na : numB a = some q) {f r : ByteArray} {e g : Int} (e1 : rFloor a = (f, e)) (e2 : rRound a = (r, g)) (he : e = 0) (hg : ¬ g = 0) :
    Calls Tryd.prog 7 #[.string a] w fun e w' => e = .returned (.bool true) ∧ Below w.heap.size w w' := by
  have ha : a.size ≤ 140737488351232 := by have := num_size na; omega
  have HA := Lib.hid ha
  have HI := Lib.hid (show rIs a = true by rw [rIs, na]; rfl)
  have HC1 := Lib.hid (fun (W : World) => c_named (w := W) e1 (c_rFloor a ha))
  have HC2 := Lib.hid (fun (W : World) => c_named (w := W) e2 (c_rRound a ha))
  have HT1 : ¬ e = 1 := by
    have h1 : rFloor a = tellB ((q.floor : Int) : Rat) := un_yes na
    rw [e1] at h1
    have h2 : e = (tellB ((q.floor : Int) : Rat)).2 := congrArg Prod.snd h1
    rw [h2]; unfold tellB; split
    · show ¬ (0 : Int) = 1; decide
    · show ¬ (2 : Int) = 1; decide
  have HT2 : ¬ g = 1 := by
    have h1 : rRound a = tellB (roundQ q) := un_yes na
    rw [e2] at h1
    have h2 : g = (tellB (roundQ q)).2 := congrArg Prod.snd h1
    rw [h2]; unfold tellB; split
    · show ¬ (0 : Int) = 1; decide
    · show ¬ (2 : Int) = 1; decide
  have b3 : (e == 1) = false := by simpa using HT1
  have b4 : (g == 1) = false := by simpa using HT2
  have b5 : (e != 1) = true := bne_iff_ne.2 HT1
  have b6 : (g != 1) = true := bne_iff_ne.2 HT2
  subst he
  have b2 : (g == 0) = false := by simpa using hg
  have b7 : (g != 0) = true := bne_iff_ne.2 hg
  clear hg
  have HT1' := Lib.hid HT1
  have HT2' := Lib.hid HT2
  clear ha na e1 e2 HT1 HT2
  go_enter Tryd.func7, Tryd.ntmps7
  go_wp2_with fail
  refine (HC1.out _).mono ?_
  rintro e w1 ⟨rfl, hb1⟩
  go_wp2_with fail
  refine (HC2.out _).mono ?_
  rintro e w2 ⟨rfl, hb2⟩
  go_wp2_with fail
  refine (c_rIs' a HA.out HI.out).mono ?_
  rintro e w3 ⟨rfl, hb3⟩
  go_wp2_with fail
  refine (c_alive).mono ?_
  rintro e w4 ⟨rfl, hb4⟩
  go_wp2_with fail
  go_ret
  exact ⟨rfl, blq⟩
theorem parts_int {s : ByteArray} {z : Int} (h : numB s = some ((z : Int) : Rat)) : ∃ n, rParts s = (n, ⟨#[49]⟩, 0) := by
  refine ⟨_, (by rw [rParts, h]; show (_, bsOf (dec 1), _) = _; rw [dec_small (by decide)]; rfl)⟩
theorem c_namedP {F : Nat} {args : Array Value} {r : ByteArray × ByteArray × Int} {s t : ByteArray} {n : Int} (h : r = (s, t, n)) (hc : Calls Tryd.prog F args w fun e w' => e = .returned (.tuple #[.string r.1, .string r.2.1, .int .i64 r.2.2]) ∧ Below w.heap.size w w') :
    Calls Tryd.prog F args w fun e w' => e = .returned (.tuple #[.string s, .string t, .int .i64 n]) ∧ Below w.heap.size w w' := by
  subst h; exact hc
theorem c_namedB {F : Nat} {args : Array Value} {r : Bool × Int} {s : Bool} {n : Int} (h : r = (s, n)) (hc : Calls Tryd.prog F args w fun e w' => e = .returned (.tuple #[.bool r.1, .int .i64 r.2]) ∧ Below w.heap.size w w') :
    Calls Tryd.prog F args w fun e w' => e = .returned (.tuple #[.bool s, .int .i64 n]) ∧ Below w.heap.size w w' := by
  subst h; exact hc
theorem half_den (z : Int) : ((z : Rat) / 2).den = 1 ↔ z % 2 = 0 := by
  constructor
  · intro h
    have h1 := rat_int h
    have h2 : (z : Rat) = ((((z : Rat) / 2).num * 2 : Int) : Rat) := by rw [Rat.intCast_mul, ← h1]; grind
    have h3 : z = ((z : Rat) / 2).num * 2 := by exact_mod_cast h2
    omega
  · intro h
    have h3 : (z : Rat) / 2 = ((z / 2 : Int) : Rat) := by
      have h2 : (z : Rat) = ((z / 2 * 2 : Int) : Rat) := by rw [show z / 2 * 2 = z by omega]
      rw [h2, Rat.intCast_mul]
      grind
    rw [h3]; rfl
theorem half_mul (z : Int) : ((z : Rat) * (1 / 2)).den = 1 ↔ z % 2 = 0 := by
  rw [show (z : Rat) * (1 / 2) = (z : Rat) / 2 by grind]; exact half_den z
theorem sign_pos_of {q : Rat} (h : 0 < q.num.sign) : 0 < q := num_pos.1 (by
  rcases Int.lt_trichotomy q.num 0 with h1 | h1 | h1
  · rw [Int.sign_eq_neg_one_of_neg h1] at h; omega
  · rw [h1] at h; exact absurd h (by decide)
  · exact h1)
theorem sign_zero_of {q : Rat} (h : q.num.sign = 0) : q = 0 := by rw [Int.sign_eq_zero_iff_zero, Rat.num_eq_zero] at h; exact h
theorem round_spec (q : Rat) : ∃ z : Int, roundQ q = (z : Rat) ∧ (z : Rat) - q ≤ 1 / 2 ∧ -(1 / 2) ≤ (z : Rat) - q ∧ ((z : Rat) - q = 1 / 2 ∨ (z : Rat) - q = -(1 / 2) → z % 2 = 0) := by
  have h1 := floor_parts q
  have e1 : (((q.floor + 1 : Int)) : Rat) = (q.floor : Rat) + 1 := by rw [Rat.intCast_add]; rfl
  unfold roundQ
  by_cases hc : 0 < (q - (q.floor : Rat) - 1 / 2).num.sign ∨ ((q - (q.floor : Rat) - 1 / 2).num.sign = 0 ∧ ¬ ((q.floor : Rat) * (1 / 2)).den = 1)
  · rw [if_pos hc]
    refine ⟨q.floor + 1, e1.symm, ?_⟩
    rw [e1]
    rcases hc with h | ⟨h, h2⟩
    · have h3 := sign_pos_of h
      refine ⟨by grind, by grind, fun h4 => ?_⟩
      exfalso; rcases h4 with h4 | h4 <;> grind
    · have h3 := sign_zero_of h
      rw [half_mul] at h2
      exact ⟨by grind, by grind, fun _ => by omega⟩
  · rw [if_neg hc]
    refine ⟨q.floor, rfl, ?_⟩
    by_cases h : (q - (q.floor : Rat) - 1 / 2).num.sign = 0
    · have h3 := sign_zero_of h
      have h2 : ((q.floor : Rat) * (1 / 2)).den = 1 := by
        by_cases h2 : ((q.floor : Rat) * (1 / 2)).den = 1
        · exact h2
        · exact absurd (.inr ⟨h, h2⟩) hc
      rw [half_mul] at h2
      exact ⟨by grind, by grind, fun _ => h2⟩
    · have h3 : ¬ 0 < (q - (q.floor : Rat) - 1 / 2).num.sign := fun h4 => hc (.inl h4)
      have h4 : q - (q.floor : Rat) - 1 / 2 < 0 := by
        rcases Rat.le_total (a := 0) (b := q - (q.floor : Rat) - 1 / 2) with h5 | h5
        · by_cases h6 : q - (q.floor : Rat) - 1 / 2 = 0
          · rw [h6] at h; exact absurd rfl h
          · exact absurd (sign_p (q := q - (q.floor : Rat) - 1 / 2) (by grind)) h3
        · by_cases h6 : q - (q.floor : Rat) - 1 / 2 = 0
          · rw [h6] at h; exact absurd rfl h
          · grind
      refine ⟨by grind, by grind, fun h5 => ?_⟩
      exfalso; rcases h5 with h5 | h5 <;> grind
theorem hqN {F : Nat} {args : Array Value} {r : ByteArray × Int} {s : ByteArray} {n : Int} (h : r = (s, n)) (hc : ∀ W : World, Calls Tryd.prog F args W fun e w' => e = .returned (.tuple #[.string r.1, .int .i64 r.2]) ∧ Below W.heap.size W w') : Hid (∀ W : World, Calls Tryd.prog F args W fun e w' => e = .returned (.tuple #[.string s, .int .i64 n]) ∧ Below W.heap.size W w') := Lib.hid fun W => c_named (w := W) h (hc W)
theorem hqI {F : Nat} {args : Array Value} {r : Int × Int} {s n : Int} (h : r = (s, n)) (hc : ∀ W : World, Calls Tryd.prog F args W fun e w' => e = .returned (.tuple #[.int .i64 r.1, .int .i64 r.2]) ∧ Below W.heap.size W w') : Hid (∀ W : World, Calls Tryd.prog F args W fun e w' => e = .returned (.tuple #[.int .i64 s, .int .i64 n]) ∧ Below W.heap.size W w') := Lib.hid fun W => c_namedI (w := W) h (hc W)
theorem hqP {F : Nat} {args : Array Value} {r : ByteArray × ByteArray × Int} {s t : ByteArray} {n : Int} (h : r = (s, t, n)) (hc : ∀ W : World, Calls Tryd.prog F args W fun e w' => e = .returned (.tuple #[.string r.1, .string r.2.1, .int .i64 r.2.2]) ∧ Below W.heap.size W w') : Hid (∀ W : World, Calls Tryd.prog F args W fun e w' => e = .returned (.tuple #[.string s, .string t, .int .i64 n]) ∧ Below W.heap.size W w') := Lib.hid fun W => c_namedP (w := W) h (hc W)
theorem floor_pre (a : ByteArray) {q : Rat} (na : numB a = some q) {f r m d : ByteArray} {z x e i : Int} {kb : Bool} (nr : numB r = some (z : Rat)) (e1 : rFloor a = (f, 0)) (e3 : rCmp f a = (x, e)) (e4 : rSum f ⟨#[49]⟩ = (m, kb)) (e6 : rSub r a = (d, i)) :
    a.size ≤ 140737488351232 ∧ rIs a = true ∧ numB f = some ((q.floor : Int) : Rat) ∧ f.size ≤ 140737488351232 ∧ r.size ≤ 140737488351232 ∧ m.size ≤ 140737488351232 ∧ d.size ≤ 140737488351232 ∧ (∃ n, rParts f = (n, ⟨#[49]⟩, 0)) ∧ (∃ n, rParts r = (n, ⟨#[49]⟩, 0)) ∧ ¬ x > 0 := by
  have ha : a.size ≤ 140737488351232 := by have := num_size na; omega
  have h1 : rFloor a = tellB ((q.floor : Int) : Rat) := un_yes na
  rw [e1] at h1
  have nf : numB f = some ((q.floor : Int) : Rat) := by
    obtain ⟨h3, h4⟩ := tell_yes (q := ((q.floor : Int) : Rat)) (by rw [← h1])
    rw [h4] at h1; injection h1 with h5 _; rw [h5]; exact numB_str h3
  have hzf : f.size ≤ 140737488351232 := by have := num_size nf; omega
  have hzr : r.size ≤ 140737488351232 := by have := num_size nr; omega
  have hzm : m.size ≤ 140737488351232 := ok_size e4 (bin_size _ _ _)
  have hzd : d.size ≤ 140737488351232 := by have h := bin_size (· - ·) r a; rw [show rBin (· - ·) r a = (d, i) from e6] at h; exact Nat.le_trans h (by omega)
  obtain ⟨n1, p1⟩ := parts_int nf
  obtain ⟨n2, p2⟩ := parts_int nr
  have hx : ¬ x > 0 := by
    rw [cmp_yes nf na] at e3
    injection e3 with h3 _
    rw [← h3]
    have := (floor_parts q).1
    have h5 := sign_np (q := ((q.floor : Int) : Rat) - q) (by grind)
    omega
  exact ⟨ha, by rw [rIs, na]; rfl, nf, hzf, hzr, hzm, hzd, ⟨n1, p1⟩, ⟨n2, p2⟩, hx⟩
theorem floor_yti (a : ByteArray) {q : Rat} (na : numB a = some q) {f r m d : ByteArray} {z x y e g i u ue v ve : Int} (nr : numB r = some (z : Rat)) (e1 : rFloor a = (f, 0)) (e2 : rRound a = (r, 0)) (e3 : rCmp f a = (x, e)) (e4 : rSum f ⟨#[49]⟩ = (m, true)) (e5 : rCmp m a = (y, g)) (e6 : rSub r a = (d, i)) (e7 : rCmp d ⟨#[49, 47, 50]⟩ = (u, ue)) (e8 : rCmp d ⟨#[45, 49, 47, 50]⟩ = (v, ve)) (hi : ¬ i = 0) :
    Calls Tryd.prog 7 #[.string a] w fun e w' => e = .returned (.bool true) ∧ Below w.heap.size w w' := by
  obtain ⟨ha, hI, nf, hzf, hzr, hzm, hzd, ⟨n1, p1⟩, ⟨n2, p2⟩, hx⟩ := floor_pre a na nr e1 e3 e4 e6
  have HA := Lib.hid ha
  have HI := Lib.hid hI
  have HC1 := hqN e1 fun _ => c_rFloor a ha
  have HC2 := hqN e2 fun _ => c_rRound a ha
  have HP1 := hqP p1 fun _ => c_rParts f hzf
  have HP2 := hqP p2 fun _ => c_rParts r hzr
  have HX := hqI e3 fun _ => c_rCmp f a hzf ha
  have HY := hqI e5 fun _ => c_rCmp m a hzm ha
  have HD := hqN e6 fun _ => c_rSub r a hzr ha
  have HU := hqI e7 fun _ => c_rCmp d ⟨#[49, 47, 50]⟩ hzd (by decide)
  have HV := hqI e8 fun _ => c_rCmp d ⟨#[45, 49, 47, 50]⟩ hzd (by decide)
  have HZF := Lib.hid hzf
  have HM := Lib.hid e4
  have dx : decide (0 < x) = false := by simpa using hx
  have hy : decide (y ≤ 0) = false := by
    have h3 := res_sum (res_num nf) (res_num (a := ⟨#[49]⟩) (q := 1) (si 1 [49] (by decide +kernel)).1) e4 rfl rfl rfl
    rw [cmp_yes h3 na] at e5
    injection e5 with h4 _
    have := (floor_parts q).2
    have h5 := sign_p (q := ((q.floor : Int) : Rat) + 1 - q) (by grind)
    rw [decide_eq_false_iff_not]; omega
  have b1 : (i != 0) = true := bne_iff_ne.2 hi
  clear hi
  clear ha na e1 e2 e3 e4 e5 e6 e7 e8 hI p1 p2 nf nr hzf hzr hzm hzd hx
  go_enter Tryd.func7, Tryd.ntmps7
  go_wp2_with fail
  refine (HC1.out _).mono ?_
  rintro e w1 ⟨rfl, hb1⟩
  go_wp2_with fail
  refine (HC2.out _).mono ?_
  rintro e w2 ⟨rfl, hb2⟩
  go_wp2_with fail
  refine (c_rIs' a HA.out HI.out).mono ?_
  rintro e w3 ⟨rfl, hb3⟩
  go_wp2_with fail
  refine (HP1.out _).mono ?_
  rintro e w4 ⟨rfl, hb4⟩
  go_wp2_with fail
  refine (HP2.out _).mono ?_
  rintro e w5 ⟨rfl, hb5⟩
  go_wp2_with fail
  refine (HX.out _).mono ?_
  rintro e w6 ⟨rfl, hb6⟩
  go_wp2_with fail
  refine (c_sum HZF.out (by decide) HM.out).mono ?_
  rintro e w7 ⟨rfl, hb7⟩
  go_wp2_with fail
  refine (HY.out _).mono ?_
  rintro e w8 ⟨rfl, hb8⟩
  go_wp2_with fail
  refine (HD.out _).mono ?_
  rintro e w9 ⟨rfl, hb9⟩
  go_wp2_with fail
  refine (HU.out _).mono ?_
  rintro e w10 ⟨rfl, hb10⟩
  go_wp2_with fail
  refine (HV.out _).mono ?_
  rintro e w11 ⟨rfl, hb11⟩
  go_wp2_with fail
  refine (c_alive).mono ?_
  rintro e w12 ⟨rfl, hb12⟩
  go_wp2_with fail
  go_ret
  exact ⟨rfl, blq⟩
theorem floor_yts (a : ByteArray) {q : Rat} (na : numB a = some q) {f r m d : ByteArray} {z x y e g i u ue v ve : Int} (nr : numB r = some (z : Rat)) (e1 : rFloor a = (f, 0)) (e2 : rRound a = (r, 0)) (e3 : rCmp f a = (x, e)) (e4 : rSum f ⟨#[49]⟩ = (m, true)) (e5 : rCmp m a = (y, g)) (e6 : rSub r a = (d, i)) (e7 : rCmp d ⟨#[49, 47, 50]⟩ = (u, ue)) (e8 : rCmp d ⟨#[45, 49, 47, 50]⟩ = (v, ve)) {mi : ByteArray} {ev od : Bool} {j k1 k2 : Int} (e9 : rMultiple r ⟨#[50]⟩ = (ev, k1)) (e10 : rMul r ⟨#[45, 49]⟩ = (mi, j)) (e11 : rMultiple mi ⟨#[50]⟩ = (od, k2)) (hi : i = 0) (hu : u < 0) (hv : 0 < v) :
    Calls Tryd.prog 7 #[.string a] w fun e w' => e = .returned (.bool true) ∧ Below w.heap.size w w' := by
  obtain ⟨ha, hI, nf, hzf, hzr, hzm, hzd, ⟨n1, p1⟩, ⟨n2, p2⟩, hx⟩ := floor_pre a na nr e1 e3 e4 e6
  have HA := Lib.hid ha
  have HI := Lib.hid hI
  have HC1 := hqN e1 fun _ => c_rFloor a ha
  have HC2 := hqN e2 fun _ => c_rRound a ha
  have HP1 := hqP p1 fun _ => c_rParts f hzf
  have HP2 := hqP p2 fun _ => c_rParts r hzr
  have HX := hqI e3 fun _ => c_rCmp f a hzf ha
  have HY := hqI e5 fun _ => c_rCmp m a hzm ha
  have HD := hqN e6 fun _ => c_rSub r a hzr ha
  have HU := hqI e7 fun _ => c_rCmp d ⟨#[49, 47, 50]⟩ hzd (by decide)
  have HV := hqI e8 fun _ => c_rCmp d ⟨#[45, 49, 47, 50]⟩ hzd (by decide)
  have HZF := Lib.hid hzf
  have HM := Lib.hid e4
  have dx : decide (0 < x) = false := by simpa using hx
  have hy : decide (y ≤ 0) = false := by
    have h3 := res_sum (res_num nf) (res_num (a := ⟨#[49]⟩) (q := 1) (si 1 [49] (by decide +kernel)).1) e4 rfl rfl rfl
    rw [cmp_yes h3 na] at e5
    injection e5 with h4 _
    have := (floor_parts q).2
    have h5 := sign_p (q := ((q.floor : Int) : Rat) + 1 - q) (by grind)
    rw [decide_eq_false_iff_not]; omega
  have hzmi : mi.size ≤ 140737488351232 := by have h := bin_size (· * ·) r ⟨#[45, 49]⟩; rw [show rBin (· * ·) r ⟨#[45, 49]⟩ = (mi, j) from e10] at h; exact Nat.le_trans h (by omega)
  have HE := Lib.hid (fun (W : World) => c_namedB (w := W) e9 (c_rMultiple r ⟨#[50]⟩ hzr (by decide)))
  have HMI := hqN e10 fun _ => c_rMul r ⟨#[45, 49]⟩ hzr (by decide)
  have HO := Lib.hid (fun (W : World) => c_namedB (w := W) e11 (c_rMultiple mi ⟨#[50]⟩ hzmi (by decide)))
  subst hi
  have b1 : decide (u ≤ 0) = true := decide_eq_true (by omega)
  have b2 : decide (0 ≤ v) = true := decide_eq_true (by omega)
  have b3 : (u != 0) = true := bne_iff_ne.2 (by omega)
  have b4 : (v != 0) = true := bne_iff_ne.2 (by omega)
  clear hu hv e9 e10 e11 hzmi
  clear ha na e1 e2 e3 e4 e5 e6 e7 e8 hI p1 p2 nf nr hzf hzr hzm hzd hx
  go_enter Tryd.func7, Tryd.ntmps7
  go_wp2_with fail
  refine (HC1.out _).mono ?_
  rintro e w1 ⟨rfl, hb1⟩
  go_wp2_with fail
  refine (HC2.out _).mono ?_
  rintro e w2 ⟨rfl, hb2⟩
  go_wp2_with fail
  refine (c_rIs' a HA.out HI.out).mono ?_
  rintro e w3 ⟨rfl, hb3⟩
  go_wp2_with fail
  refine (HP1.out _).mono ?_
  rintro e w4 ⟨rfl, hb4⟩
  go_wp2_with fail
  refine (HP2.out _).mono ?_
  rintro e w5 ⟨rfl, hb5⟩
  go_wp2_with fail
  refine (HX.out _).mono ?_
  rintro e w6 ⟨rfl, hb6⟩
  go_wp2_with fail
  refine (c_sum HZF.out (by decide) HM.out).mono ?_
  rintro e w7 ⟨rfl, hb7⟩
  go_wp2_with fail
  refine (HY.out _).mono ?_
  rintro e w8 ⟨rfl, hb8⟩
  go_wp2_with fail
  refine (HD.out _).mono ?_
  rintro e w9 ⟨rfl, hb9⟩
  go_wp2_with fail
  refine (HU.out _).mono ?_
  rintro e w10 ⟨rfl, hb10⟩
  go_wp2_with fail
  refine (HV.out _).mono ?_
  rintro e w11 ⟨rfl, hb11⟩
  go_wp2_with fail
  refine (HE.out _).mono ?_
  rintro e w12 ⟨rfl, hb12⟩
  go_wp2_with fail
  refine (HMI.out _).mono ?_
  rintro e w13 ⟨rfl, hb13⟩
  go_wp2_with fail
  refine (HO.out _).mono ?_
  rintro e w14 ⟨rfl, hb14⟩
  go_wp2_with fail
  refine (c_alive).mono ?_
  rintro e w15 ⟨rfl, hb15⟩
  go_wp2_with fail
  go_ret
  exact ⟨rfl, blq⟩
theorem floor_ytue (a : ByteArray) {q : Rat} (na : numB a = some q) {f r m d : ByteArray} {z x y e g i u ue v ve : Int} (nr : numB r = some (z : Rat)) (e1 : rFloor a = (f, 0)) (e2 : rRound a = (r, 0)) (e3 : rCmp f a = (x, e)) (e4 : rSum f ⟨#[49]⟩ = (m, true)) (e5 : rCmp m a = (y, g)) (e6 : rSub r a = (d, i)) (e7 : rCmp d ⟨#[49, 47, 50]⟩ = (u, ue)) (e8 : rCmp d ⟨#[45, 49, 47, 50]⟩ = (v, ve)) {mi : ByteArray} {ev od : Bool} {j k1 k2 : Int} (e9 : rMultiple r ⟨#[50]⟩ = (ev, k1)) (e10 : rMul r ⟨#[45, 49]⟩ = (mi, j)) (e11 : rMultiple mi ⟨#[50]⟩ = (od, k2)) (hi : i = 0) (hu : u = 0) (hv : 0 ≤ v) (he : ev = true) :
    Calls Tryd.prog 7 #[.string a] w fun e w' => e = .returned (.bool true) ∧ Below w.heap.size w w' := by
  obtain ⟨ha, hI, nf, hzf, hzr, hzm, hzd, ⟨n1, p1⟩, ⟨n2, p2⟩, hx⟩ := floor_pre a na nr e1 e3 e4 e6
  have HA := Lib.hid ha
  have HI := Lib.hid hI
  have HC1 := hqN e1 fun _ => c_rFloor a ha
  have HC2 := hqN e2 fun _ => c_rRound a ha
  have HP1 := hqP p1 fun _ => c_rParts f hzf
  have HP2 := hqP p2 fun _ => c_rParts r hzr
  have HX := hqI e3 fun _ => c_rCmp f a hzf ha
  have HY := hqI e5 fun _ => c_rCmp m a hzm ha
  have HD := hqN e6 fun _ => c_rSub r a hzr ha
  have HU := hqI e7 fun _ => c_rCmp d ⟨#[49, 47, 50]⟩ hzd (by decide)
  have HV := hqI e8 fun _ => c_rCmp d ⟨#[45, 49, 47, 50]⟩ hzd (by decide)
  have HZF := Lib.hid hzf
  have HM := Lib.hid e4
  have dx : decide (0 < x) = false := by simpa using hx
  have hy : decide (y ≤ 0) = false := by
    have h3 := res_sum (res_num nf) (res_num (a := ⟨#[49]⟩) (q := 1) (si 1 [49] (by decide +kernel)).1) e4 rfl rfl rfl
    rw [cmp_yes h3 na] at e5
    injection e5 with h4 _
    have := (floor_parts q).2
    have h5 := sign_p (q := ((q.floor : Int) : Rat) + 1 - q) (by grind)
    rw [decide_eq_false_iff_not]; omega
  have hzmi : mi.size ≤ 140737488351232 := by have h := bin_size (· * ·) r ⟨#[45, 49]⟩; rw [show rBin (· * ·) r ⟨#[45, 49]⟩ = (mi, j) from e10] at h; exact Nat.le_trans h (by omega)
  have HE := Lib.hid (fun (W : World) => c_namedB (w := W) e9 (c_rMultiple r ⟨#[50]⟩ hzr (by decide)))
  have HMI := hqN e10 fun _ => c_rMul r ⟨#[45, 49]⟩ hzr (by decide)
  have HO := Lib.hid (fun (W : World) => c_namedB (w := W) e11 (c_rMultiple mi ⟨#[50]⟩ hzmi (by decide)))
  subst hi
  subst hu
  subst he
  have b2 : decide (0 ≤ v) = true := decide_eq_true (by omega)
  clear hv e9 e10 e11 hzmi
  clear ha na e1 e2 e3 e4 e5 e6 e7 e8 hI p1 p2 nf nr hzf hzr hzm hzd hx
  go_enter Tryd.func7, Tryd.ntmps7
  go_wp2_with fail
  refine (HC1.out _).mono ?_
  rintro e w1 ⟨rfl, hb1⟩
  go_wp2_with fail
  refine (HC2.out _).mono ?_
  rintro e w2 ⟨rfl, hb2⟩
  go_wp2_with fail
  refine (c_rIs' a HA.out HI.out).mono ?_
  rintro e w3 ⟨rfl, hb3⟩
  go_wp2_with fail
  refine (HP1.out _).mono ?_
  rintro e w4 ⟨rfl, hb4⟩
  go_wp2_with fail
  refine (HP2.out _).mono ?_
  rintro e w5 ⟨rfl, hb5⟩
  go_wp2_with fail
  refine (HX.out _).mono ?_
  rintro e w6 ⟨rfl, hb6⟩
  go_wp2_with fail
  refine (c_sum HZF.out (by decide) HM.out).mono ?_
  rintro e w7 ⟨rfl, hb7⟩
  go_wp2_with fail
  refine (HY.out _).mono ?_
  rintro e w8 ⟨rfl, hb8⟩
  go_wp2_with fail
  refine (HD.out _).mono ?_
  rintro e w9 ⟨rfl, hb9⟩
  go_wp2_with fail
  refine (HU.out _).mono ?_
  rintro e w10 ⟨rfl, hb10⟩
  go_wp2_with fail
  refine (HV.out _).mono ?_
  rintro e w11 ⟨rfl, hb11⟩
  go_wp2_with fail
  refine (HE.out _).mono ?_
  rintro e w12 ⟨rfl, hb12⟩
  go_wp2_with fail
  refine (HMI.out _).mono ?_
  rintro e w13 ⟨rfl, hb13⟩
  go_wp2_with fail
  refine (HO.out _).mono ?_
  rintro e w14 ⟨rfl, hb14⟩
  go_wp2_with fail
  refine (c_alive).mono ?_
  rintro e w15 ⟨rfl, hb15⟩
  go_wp2_with fail
  go_ret
  exact ⟨rfl, blq⟩
theorem floor_ytuo (a : ByteArray) {q : Rat} (na : numB a = some q) {f r m d : ByteArray} {z x y e g i u ue v ve : Int} (nr : numB r = some (z : Rat)) (e1 : rFloor a = (f, 0)) (e2 : rRound a = (r, 0)) (e3 : rCmp f a = (x, e)) (e4 : rSum f ⟨#[49]⟩ = (m, true)) (e5 : rCmp m a = (y, g)) (e6 : rSub r a = (d, i)) (e7 : rCmp d ⟨#[49, 47, 50]⟩ = (u, ue)) (e8 : rCmp d ⟨#[45, 49, 47, 50]⟩ = (v, ve)) {mi : ByteArray} {ev od : Bool} {j k1 k2 : Int} (e9 : rMultiple r ⟨#[50]⟩ = (ev, k1)) (e10 : rMul r ⟨#[45, 49]⟩ = (mi, j)) (e11 : rMultiple mi ⟨#[50]⟩ = (od, k2)) (hi : i = 0) (hu : u = 0) (hv : 0 ≤ v) (he : ev = false) (ho : od = true) :
    Calls Tryd.prog 7 #[.string a] w fun e w' => e = .returned (.bool true) ∧ Below w.heap.size w w' := by
  obtain ⟨ha, hI, nf, hzf, hzr, hzm, hzd, ⟨n1, p1⟩, ⟨n2, p2⟩, hx⟩ := floor_pre a na nr e1 e3 e4 e6
  have HA := Lib.hid ha
  have HI := Lib.hid hI
  have HC1 := hqN e1 fun _ => c_rFloor a ha
  have HC2 := hqN e2 fun _ => c_rRound a ha
  have HP1 := hqP p1 fun _ => c_rParts f hzf
  have HP2 := hqP p2 fun _ => c_rParts r hzr
  have HX := hqI e3 fun _ => c_rCmp f a hzf ha
  have HY := hqI e5 fun _ => c_rCmp m a hzm ha
  have HD := hqN e6 fun _ => c_rSub r a hzr ha
  have HU := hqI e7 fun _ => c_rCmp d ⟨#[49, 47, 50]⟩ hzd (by decide)
  have HV := hqI e8 fun _ => c_rCmp d ⟨#[45, 49, 47, 50]⟩ hzd (by decide)
  have HZF := Lib.hid hzf
  have HM := Lib.hid e4
  have dx : decide (0 < x) = false := by simpa using hx
  have hy : decide (y ≤ 0) = false := by
    have h3 := res_sum (res_num nf) (res_num (a := ⟨#[49]⟩) (q := 1) (si 1 [49] (by decide +kernel)).1) e4 rfl rfl rfl
    rw [cmp_yes h3 na] at e5
    injection e5 with h4 _
    have := (floor_parts q).2
    have h5 := sign_p (q := ((q.floor : Int) : Rat) + 1 - q) (by grind)
    rw [decide_eq_false_iff_not]; omega
  have hzmi : mi.size ≤ 140737488351232 := by have h := bin_size (· * ·) r ⟨#[45, 49]⟩; rw [show rBin (· * ·) r ⟨#[45, 49]⟩ = (mi, j) from e10] at h; exact Nat.le_trans h (by omega)
  have HE := Lib.hid (fun (W : World) => c_namedB (w := W) e9 (c_rMultiple r ⟨#[50]⟩ hzr (by decide)))
  have HMI := hqN e10 fun _ => c_rMul r ⟨#[45, 49]⟩ hzr (by decide)
  have HO := Lib.hid (fun (W : World) => c_namedB (w := W) e11 (c_rMultiple mi ⟨#[50]⟩ hzmi (by decide)))
  subst hi
  subst hu
  subst he
  subst ho
  have b2 : decide (0 ≤ v) = true := decide_eq_true (by omega)
  clear hv e9 e10 e11 hzmi
  clear ha na e1 e2 e3 e4 e5 e6 e7 e8 hI p1 p2 nf nr hzf hzr hzm hzd hx
  go_enter Tryd.func7, Tryd.ntmps7
  go_wp2_with fail
  refine (HC1.out _).mono ?_
  rintro e w1 ⟨rfl, hb1⟩
  go_wp2_with fail
  refine (HC2.out _).mono ?_
  rintro e w2 ⟨rfl, hb2⟩
  go_wp2_with fail
  refine (c_rIs' a HA.out HI.out).mono ?_
  rintro e w3 ⟨rfl, hb3⟩
  go_wp2_with fail
  refine (HP1.out _).mono ?_
  rintro e w4 ⟨rfl, hb4⟩
  go_wp2_with fail
  refine (HP2.out _).mono ?_
  rintro e w5 ⟨rfl, hb5⟩
  go_wp2_with fail
  refine (HX.out _).mono ?_
  rintro e w6 ⟨rfl, hb6⟩
  go_wp2_with fail
  refine (c_sum HZF.out (by decide) HM.out).mono ?_
  rintro e w7 ⟨rfl, hb7⟩
  go_wp2_with fail
  refine (HY.out _).mono ?_
  rintro e w8 ⟨rfl, hb8⟩
  go_wp2_with fail
  refine (HD.out _).mono ?_
  rintro e w9 ⟨rfl, hb9⟩
  go_wp2_with fail
  refine (HU.out _).mono ?_
  rintro e w10 ⟨rfl, hb10⟩
  go_wp2_with fail
  refine (HV.out _).mono ?_
  rintro e w11 ⟨rfl, hb11⟩
  go_wp2_with fail
  refine (HE.out _).mono ?_
  rintro e w12 ⟨rfl, hb12⟩
  go_wp2_with fail
  refine (HMI.out _).mono ?_
  rintro e w13 ⟨rfl, hb13⟩
  go_wp2_with fail
  refine (HO.out _).mono ?_
  rintro e w14 ⟨rfl, hb14⟩
  go_wp2_with fail
  refine (c_alive).mono ?_
  rintro e w15 ⟨rfl, hb15⟩
  go_wp2_with fail
  go_ret
  exact ⟨rfl, blq⟩
theorem floor_ytve (a : ByteArray) {q : Rat} (na : numB a = some q) {f r m d : ByteArray} {z x y e g i u ue v ve : Int} (nr : numB r = some (z : Rat)) (e1 : rFloor a = (f, 0)) (e2 : rRound a = (r, 0)) (e3 : rCmp f a = (x, e)) (e4 : rSum f ⟨#[49]⟩ = (m, true)) (e5 : rCmp m a = (y, g)) (e6 : rSub r a = (d, i)) (e7 : rCmp d ⟨#[49, 47, 50]⟩ = (u, ue)) (e8 : rCmp d ⟨#[45, 49, 47, 50]⟩ = (v, ve)) {mi : ByteArray} {ev od : Bool} {j k1 k2 : Int} (e9 : rMultiple r ⟨#[50]⟩ = (ev, k1)) (e10 : rMul r ⟨#[45, 49]⟩ = (mi, j)) (e11 : rMultiple mi ⟨#[50]⟩ = (od, k2)) (hi : i = 0) (hu : u < 0) (hv : v = 0) (he : ev = true) :
    Calls Tryd.prog 7 #[.string a] w fun e w' => e = .returned (.bool true) ∧ Below w.heap.size w w' := by
  obtain ⟨ha, hI, nf, hzf, hzr, hzm, hzd, ⟨n1, p1⟩, ⟨n2, p2⟩, hx⟩ := floor_pre a na nr e1 e3 e4 e6
  have HA := Lib.hid ha
  have HI := Lib.hid hI
  have HC1 := hqN e1 fun _ => c_rFloor a ha
  have HC2 := hqN e2 fun _ => c_rRound a ha
  have HP1 := hqP p1 fun _ => c_rParts f hzf
  have HP2 := hqP p2 fun _ => c_rParts r hzr
  have HX := hqI e3 fun _ => c_rCmp f a hzf ha
  have HY := hqI e5 fun _ => c_rCmp m a hzm ha
  have HD := hqN e6 fun _ => c_rSub r a hzr ha
  have HU := hqI e7 fun _ => c_rCmp d ⟨#[49, 47, 50]⟩ hzd (by decide)
  have HV := hqI e8 fun _ => c_rCmp d ⟨#[45, 49, 47, 50]⟩ hzd (by decide)
  have HZF := Lib.hid hzf
  have HM := Lib.hid e4
  have dx : decide (0 < x) = false := by simpa using hx
  have hy : decide (y ≤ 0) = false := by
    have h3 := res_sum (res_num nf) (res_num (a := ⟨#[49]⟩) (q := 1) (si 1 [49] (by decide +kernel)).1) e4 rfl rfl rfl
    rw [cmp_yes h3 na] at e5
    injection e5 with h4 _
    have := (floor_parts q).2
    have h5 := sign_p (q := ((q.floor : Int) : Rat) + 1 - q) (by grind)
    rw [decide_eq_false_iff_not]; omega
  have hzmi : mi.size ≤ 140737488351232 := by have h := bin_size (· * ·) r ⟨#[45, 49]⟩; rw [show rBin (· * ·) r ⟨#[45, 49]⟩ = (mi, j) from e10] at h; exact Nat.le_trans h (by omega)
  have HE := Lib.hid (fun (W : World) => c_namedB (w := W) e9 (c_rMultiple r ⟨#[50]⟩ hzr (by decide)))
  have HMI := hqN e10 fun _ => c_rMul r ⟨#[45, 49]⟩ hzr (by decide)
  have HO := Lib.hid (fun (W : World) => c_namedB (w := W) e11 (c_rMultiple mi ⟨#[50]⟩ hzmi (by decide)))
  subst hi
  subst hv
  subst he
  have b1 : decide (u ≤ 0) = true := decide_eq_true (by omega)
  have b3 : (u != 0) = true := bne_iff_ne.2 (by omega)
  clear hu e9 e10 e11 hzmi
  clear ha na e1 e2 e3 e4 e5 e6 e7 e8 hI p1 p2 nf nr hzf hzr hzm hzd hx
  go_enter Tryd.func7, Tryd.ntmps7
  go_wp2_with fail
  refine (HC1.out _).mono ?_
  rintro e w1 ⟨rfl, hb1⟩
  go_wp2_with fail
  refine (HC2.out _).mono ?_
  rintro e w2 ⟨rfl, hb2⟩
  go_wp2_with fail
  refine (c_rIs' a HA.out HI.out).mono ?_
  rintro e w3 ⟨rfl, hb3⟩
  go_wp2_with fail
  refine (HP1.out _).mono ?_
  rintro e w4 ⟨rfl, hb4⟩
  go_wp2_with fail
  refine (HP2.out _).mono ?_
  rintro e w5 ⟨rfl, hb5⟩
  go_wp2_with fail
  refine (HX.out _).mono ?_
  rintro e w6 ⟨rfl, hb6⟩
  go_wp2_with fail
  refine (c_sum HZF.out (by decide) HM.out).mono ?_
  rintro e w7 ⟨rfl, hb7⟩
  go_wp2_with fail
  refine (HY.out _).mono ?_
  rintro e w8 ⟨rfl, hb8⟩
  go_wp2_with fail
  refine (HD.out _).mono ?_
  rintro e w9 ⟨rfl, hb9⟩
  go_wp2_with fail
  refine (HU.out _).mono ?_
  rintro e w10 ⟨rfl, hb10⟩
  go_wp2_with fail
  refine (HV.out _).mono ?_
  rintro e w11 ⟨rfl, hb11⟩
  go_wp2_with fail
  refine (HE.out _).mono ?_
  rintro e w12 ⟨rfl, hb12⟩
  go_wp2_with fail
  refine (HMI.out _).mono ?_
  rintro e w13 ⟨rfl, hb13⟩
  go_wp2_with fail
  refine (HO.out _).mono ?_
  rintro e w14 ⟨rfl, hb14⟩
  go_wp2_with fail
  refine (c_alive).mono ?_
  rintro e w15 ⟨rfl, hb15⟩
  go_wp2_with fail
  go_ret
  exact ⟨rfl, blq⟩
theorem floor_ytvo (a : ByteArray) {q : Rat} (na : numB a = some q) {f r m d : ByteArray} {z x y e g i u ue v ve : Int} (nr : numB r = some (z : Rat)) (e1 : rFloor a = (f, 0)) (e2 : rRound a = (r, 0)) (e3 : rCmp f a = (x, e)) (e4 : rSum f ⟨#[49]⟩ = (m, true)) (e5 : rCmp m a = (y, g)) (e6 : rSub r a = (d, i)) (e7 : rCmp d ⟨#[49, 47, 50]⟩ = (u, ue)) (e8 : rCmp d ⟨#[45, 49, 47, 50]⟩ = (v, ve)) {mi : ByteArray} {ev od : Bool} {j k1 k2 : Int} (e9 : rMultiple r ⟨#[50]⟩ = (ev, k1)) (e10 : rMul r ⟨#[45, 49]⟩ = (mi, j)) (e11 : rMultiple mi ⟨#[50]⟩ = (od, k2)) (hi : i = 0) (hu : u < 0) (hv : v = 0) (he : ev = false) (ho : od = true) :
    Calls Tryd.prog 7 #[.string a] w fun e w' => e = .returned (.bool true) ∧ Below w.heap.size w w' := by
  obtain ⟨ha, hI, nf, hzf, hzr, hzm, hzd, ⟨n1, p1⟩, ⟨n2, p2⟩, hx⟩ := floor_pre a na nr e1 e3 e4 e6
  have HA := Lib.hid ha
  have HI := Lib.hid hI
  have HC1 := hqN e1 fun _ => c_rFloor a ha
  have HC2 := hqN e2 fun _ => c_rRound a ha
  have HP1 := hqP p1 fun _ => c_rParts f hzf
  have HP2 := hqP p2 fun _ => c_rParts r hzr
  have HX := hqI e3 fun _ => c_rCmp f a hzf ha
  have HY := hqI e5 fun _ => c_rCmp m a hzm ha
  have HD := hqN e6 fun _ => c_rSub r a hzr ha
  have HU := hqI e7 fun _ => c_rCmp d ⟨#[49, 47, 50]⟩ hzd (by decide)
  have HV := hqI e8 fun _ => c_rCmp d ⟨#[45, 49, 47, 50]⟩ hzd (by decide)
  have HZF := Lib.hid hzf
  have HM := Lib.hid e4
  have dx : decide (0 < x) = false := by simpa using hx
  have hy : decide (y ≤ 0) = false := by
    have h3 := res_sum (res_num nf) (res_num (a := ⟨#[49]⟩) (q := 1) (si 1 [49] (by decide +kernel)).1) e4 rfl rfl rfl
    rw [cmp_yes h3 na] at e5
    injection e5 with h4 _
    have := (floor_parts q).2
    have h5 := sign_p (q := ((q.floor : Int) : Rat) + 1 - q) (by grind)
    rw [decide_eq_false_iff_not]; omega
  have hzmi : mi.size ≤ 140737488351232 := by have h := bin_size (· * ·) r ⟨#[45, 49]⟩; rw [show rBin (· * ·) r ⟨#[45, 49]⟩ = (mi, j) from e10] at h; exact Nat.le_trans h (by omega)
  have HE := Lib.hid (fun (W : World) => c_namedB (w := W) e9 (c_rMultiple r ⟨#[50]⟩ hzr (by decide)))
  have HMI := hqN e10 fun _ => c_rMul r ⟨#[45, 49]⟩ hzr (by decide)
  have HO := Lib.hid (fun (W : World) => c_namedB (w := W) e11 (c_rMultiple mi ⟨#[50]⟩ hzmi (by decide)))
  subst hi
  subst hv
  subst he
  subst ho
  have b1 : decide (u ≤ 0) = true := decide_eq_true (by omega)
  have b3 : (u != 0) = true := bne_iff_ne.2 (by omega)
  clear hu e9 e10 e11 hzmi
  clear ha na e1 e2 e3 e4 e5 e6 e7 e8 hI p1 p2 nf nr hzf hzr hzm hzd hx
  go_enter Tryd.func7, Tryd.ntmps7
  go_wp2_with fail
  refine (HC1.out _).mono ?_
  rintro e w1 ⟨rfl, hb1⟩
  go_wp2_with fail
  refine (HC2.out _).mono ?_
  rintro e w2 ⟨rfl, hb2⟩
  go_wp2_with fail
  refine (c_rIs' a HA.out HI.out).mono ?_
  rintro e w3 ⟨rfl, hb3⟩
  go_wp2_with fail
  refine (HP1.out _).mono ?_
  rintro e w4 ⟨rfl, hb4⟩
  go_wp2_with fail
  refine (HP2.out _).mono ?_
  rintro e w5 ⟨rfl, hb5⟩
  go_wp2_with fail
  refine (HX.out _).mono ?_
  rintro e w6 ⟨rfl, hb6⟩
  go_wp2_with fail
  refine (c_sum HZF.out (by decide) HM.out).mono ?_
  rintro e w7 ⟨rfl, hb7⟩
  go_wp2_with fail
  refine (HY.out _).mono ?_
  rintro e w8 ⟨rfl, hb8⟩
  go_wp2_with fail
  refine (HD.out _).mono ?_
  rintro e w9 ⟨rfl, hb9⟩
  go_wp2_with fail
  refine (HU.out _).mono ?_
  rintro e w10 ⟨rfl, hb10⟩
  go_wp2_with fail
  refine (HV.out _).mono ?_
  rintro e w11 ⟨rfl, hb11⟩
  go_wp2_with fail
  refine (HE.out _).mono ?_
  rintro e w12 ⟨rfl, hb12⟩
  go_wp2_with fail
  refine (HMI.out _).mono ?_
  rintro e w13 ⟨rfl, hb13⟩
  go_wp2_with fail
  refine (HO.out _).mono ?_
  rintro e w14 ⟨rfl, hb14⟩
  go_wp2_with fail
  refine (c_alive).mono ?_
  rintro e w15 ⟨rfl, hb15⟩
  go_wp2_with fail
  go_ret
  exact ⟨rfl, blq⟩
theorem floor_yfi (a : ByteArray) {q : Rat} (na : numB a = some q) {f r m d : ByteArray} {z x y e g i u ue v ve : Int} (nr : numB r = some (z : Rat)) (e1 : rFloor a = (f, 0)) (e2 : rRound a = (r, 0)) (e3 : rCmp f a = (x, e)) (e4 : rSum f ⟨#[49]⟩ = (m, false)) (e5 : rCmp m a = (y, g)) (e6 : rSub r a = (d, i)) (e7 : rCmp d ⟨#[49, 47, 50]⟩ = (u, ue)) (e8 : rCmp d ⟨#[45, 49, 47, 50]⟩ = (v, ve)) (hi : ¬ i = 0) :
    Calls Tryd.prog 7 #[.string a] w fun e w' => e = .returned (.bool true) ∧ Below w.heap.size w w' := by
  obtain ⟨ha, hI, nf, hzf, hzr, hzm, hzd, ⟨n1, p1⟩, ⟨n2, p2⟩, hx⟩ := floor_pre a na nr e1 e3 e4 e6
  have HA := Lib.hid ha
  have HI := Lib.hid hI
  have HC1 := hqN e1 fun _ => c_rFloor a ha
  have HC2 := hqN e2 fun _ => c_rRound a ha
  have HP1 := hqP p1 fun _ => c_rParts f hzf
  have HP2 := hqP p2 fun _ => c_rParts r hzr
  have HX := hqI e3 fun _ => c_rCmp f a hzf ha
  have HY := hqI e5 fun _ => c_rCmp m a hzm ha
  have HD := hqN e6 fun _ => c_rSub r a hzr ha
  have HU := hqI e7 fun _ => c_rCmp d ⟨#[49, 47, 50]⟩ hzd (by decide)
  have HV := hqI e8 fun _ => c_rCmp d ⟨#[45, 49, 47, 50]⟩ hzd (by decide)
  have HZF := Lib.hid hzf
  have HM := Lib.hid e4
  have dx : decide (0 < x) = false := by simpa using hx
  have b1 : (i != 0) = true := bne_iff_ne.2 hi
  clear hi
  clear ha na e1 e2 e3 e4 e5 e6 e7 e8 hI p1 p2 nf nr hzf hzr hzm hzd hx
  go_enter Tryd.func7, Tryd.ntmps7
  go_wp2_with fail
  refine (HC1.out _).mono ?_
  rintro e w1 ⟨rfl, hb1⟩
  go_wp2_with fail
  refine (HC2.out _).mono ?_
  rintro e w2 ⟨rfl, hb2⟩
  go_wp2_with fail
  refine (c_rIs' a HA.out HI.out).mono ?_
  rintro e w3 ⟨rfl, hb3⟩
  go_wp2_with fail
  refine (HP1.out _).mono ?_
  rintro e w4 ⟨rfl, hb4⟩
  go_wp2_with fail
  refine (HP2.out _).mono ?_
  rintro e w5 ⟨rfl, hb5⟩
  go_wp2_with fail
  refine (HX.out _).mono ?_
  rintro e w6 ⟨rfl, hb6⟩
  go_wp2_with fail
  refine (c_sum HZF.out (by decide) HM.out).mono ?_
  rintro e w7 ⟨rfl, hb7⟩
  go_wp2_with fail
  refine (HY.out _).mono ?_
  rintro e w8 ⟨rfl, hb8⟩
  go_wp2_with fail
  refine (HD.out _).mono ?_
  rintro e w9 ⟨rfl, hb9⟩
  go_wp2_with fail
  refine (HU.out _).mono ?_
  rintro e w10 ⟨rfl, hb10⟩
  go_wp2_with fail
  refine (HV.out _).mono ?_
  rintro e w11 ⟨rfl, hb11⟩
  go_wp2_with fail
  refine (c_alive).mono ?_
  rintro e w12 ⟨rfl, hb12⟩
  go_wp2_with fail
  go_ret
  exact ⟨rfl, blq⟩
theorem floor_yfs (a : ByteArray) {q : Rat} (na : numB a = some q) {f r m d : ByteArray} {z x y e g i u ue v ve : Int} (nr : numB r = some (z : Rat)) (e1 : rFloor a = (f, 0)) (e2 : rRound a = (r, 0)) (e3 : rCmp f a = (x, e)) (e4 : rSum f ⟨#[49]⟩ = (m, false)) (e5 : rCmp m a = (y, g)) (e6 : rSub r a = (d, i)) (e7 : rCmp d ⟨#[49, 47, 50]⟩ = (u, ue)) (e8 : rCmp d ⟨#[45, 49, 47, 50]⟩ = (v, ve)) {mi : ByteArray} {ev od : Bool} {j k1 k2 : Int} (e9 : rMultiple r ⟨#[50]⟩ = (ev, k1)) (e10 : rMul r ⟨#[45, 49]⟩ = (mi, j)) (e11 : rMultiple mi ⟨#[50]⟩ = (od, k2)) (hi : i = 0) (hu : u < 0) (hv : 0 < v) :
    Calls Tryd.prog 7 #[.string a] w fun e w' => e = .returned (.bool true) ∧ Below w.heap.size w w' := by
  obtain ⟨ha, hI, nf, hzf, hzr, hzm, hzd, ⟨n1, p1⟩, ⟨n2, p2⟩, hx⟩ := floor_pre a na nr e1 e3 e4 e6
  have HA := Lib.hid ha
  have HI := Lib.hid hI
  have HC1 := hqN e1 fun _ => c_rFloor a ha
  have HC2 := hqN e2 fun _ => c_rRound a ha
  have HP1 := hqP p1 fun _ => c_rParts f hzf
  have HP2 := hqP p2 fun _ => c_rParts r hzr
  have HX := hqI e3 fun _ => c_rCmp f a hzf ha
  have HY := hqI e5 fun _ => c_rCmp m a hzm ha
  have HD := hqN e6 fun _ => c_rSub r a hzr ha
  have HU := hqI e7 fun _ => c_rCmp d ⟨#[49, 47, 50]⟩ hzd (by decide)
  have HV := hqI e8 fun _ => c_rCmp d ⟨#[45, 49, 47, 50]⟩ hzd (by decide)
  have HZF := Lib.hid hzf
  have HM := Lib.hid e4
  have dx : decide (0 < x) = false := by simpa using hx
  have hzmi : mi.size ≤ 140737488351232 := by have h := bin_size (· * ·) r ⟨#[45, 49]⟩; rw [show rBin (· * ·) r ⟨#[45, 49]⟩ = (mi, j) from e10] at h; exact Nat.le_trans h (by omega)
  have HE := Lib.hid (fun (W : World) => c_namedB (w := W) e9 (c_rMultiple r ⟨#[50]⟩ hzr (by decide)))
  have HMI := hqN e10 fun _ => c_rMul r ⟨#[45, 49]⟩ hzr (by decide)
  have HO := Lib.hid (fun (W : World) => c_namedB (w := W) e11 (c_rMultiple mi ⟨#[50]⟩ hzmi (by decide)))
  subst hi
  have b1 : decide (u ≤ 0) = true := decide_eq_true (by omega)
  have b2 : decide (0 ≤ v) = true := decide_eq_true (by omega)
  have b3 : (u != 0) = true := bne_iff_ne.2 (by omega)
  have b4 : (v != 0) = true := bne_iff_ne.2 (by omega)
  clear hu hv e9 e10 e11 hzmi
  clear ha na e1 e2 e3 e4 e5 e6 e7 e8 hI p1 p2 nf nr hzf hzr hzm hzd hx
  go_enter Tryd.func7, Tryd.ntmps7
  go_wp2_with fail
  refine (HC1.out _).mono ?_
  rintro e w1 ⟨rfl, hb1⟩
  go_wp2_with fail
  refine (HC2.out _).mono ?_
  rintro e w2 ⟨rfl, hb2⟩
  go_wp2_with fail
  refine (c_rIs' a HA.out HI.out).mono ?_
  rintro e w3 ⟨rfl, hb3⟩
  go_wp2_with fail
  refine (HP1.out _).mono ?_
  rintro e w4 ⟨rfl, hb4⟩
  go_wp2_with fail
  refine (HP2.out _).mono ?_
  rintro e w5 ⟨rfl, hb5⟩
  go_wp2_with fail
  refine (HX.out _).mono ?_
  rintro e w6 ⟨rfl, hb6⟩
  go_wp2_with fail
  refine (c_sum HZF.out (by decide) HM.out).mono ?_
  rintro e w7 ⟨rfl, hb7⟩
  go_wp2_with fail
  refine (HY.out _).mono ?_
  rintro e w8 ⟨rfl, hb8⟩
  go_wp2_with fail
  refine (HD.out _).mono ?_
  rintro e w9 ⟨rfl, hb9⟩
  go_wp2_with fail
  refine (HU.out _).mono ?_
  rintro e w10 ⟨rfl, hb10⟩
  go_wp2_with fail
  refine (HV.out _).mono ?_
  rintro e w11 ⟨rfl, hb11⟩
  go_wp2_with fail
  refine (HE.out _).mono ?_
  rintro e w12 ⟨rfl, hb12⟩
  go_wp2_with fail
  refine (HMI.out _).mono ?_
  rintro e w13 ⟨rfl, hb13⟩
  go_wp2_with fail
  refine (HO.out _).mono ?_
  rintro e w14 ⟨rfl, hb14⟩
  go_wp2_with fail
  refine (c_alive).mono ?_
  rintro e w15 ⟨rfl, hb15⟩
  go_wp2_with fail
  go_ret
  exact ⟨rfl, blq⟩
theorem floor_yfue (a : ByteArray) {q : Rat} (na : numB a = some q) {f r m d : ByteArray} {z x y e g i u ue v ve : Int} (nr : numB r = some (z : Rat)) (e1 : rFloor a = (f, 0)) (e2 : rRound a = (r, 0)) (e3 : rCmp f a = (x, e)) (e4 : rSum f ⟨#[49]⟩ = (m, false)) (e5 : rCmp m a = (y, g)) (e6 : rSub r a = (d, i)) (e7 : rCmp d ⟨#[49, 47, 50]⟩ = (u, ue)) (e8 : rCmp d ⟨#[45, 49, 47, 50]⟩ = (v, ve)) {mi : ByteArray} {ev od : Bool} {j k1 k2 : Int} (e9 : rMultiple r ⟨#[50]⟩ = (ev, k1)) (e10 : rMul r ⟨#[45, 49]⟩ = (mi, j)) (e11 : rMultiple mi ⟨#[50]⟩ = (od, k2)) (hi : i = 0) (hu : u = 0) (hv : 0 ≤ v) (he : ev = true) :
    Calls Tryd.prog 7 #[.string a] w fun e w' => e = .returned (.bool true) ∧ Below w.heap.size w w' := by
  obtain ⟨ha, hI, nf, hzf, hzr, hzm, hzd, ⟨n1, p1⟩, ⟨n2, p2⟩, hx⟩ := floor_pre a na nr e1 e3 e4 e6
  have HA := Lib.hid ha
  have HI := Lib.hid hI
  have HC1 := hqN e1 fun _ => c_rFloor a ha
  have HC2 := hqN e2 fun _ => c_rRound a ha
  have HP1 := hqP p1 fun _ => c_rParts f hzf
  have HP2 := hqP p2 fun _ => c_rParts r hzr
  have HX := hqI e3 fun _ => c_rCmp f a hzf ha
  have HY := hqI e5 fun _ => c_rCmp m a hzm ha
  have HD := hqN e6 fun _ => c_rSub r a hzr ha
  have HU := hqI e7 fun _ => c_rCmp d ⟨#[49, 47, 50]⟩ hzd (by decide)
  have HV := hqI e8 fun _ => c_rCmp d ⟨#[45, 49, 47, 50]⟩ hzd (by decide)
  have HZF := Lib.hid hzf
  have HM := Lib.hid e4
  have dx : decide (0 < x) = false := by simpa using hx
  have hzmi : mi.size ≤ 140737488351232 := by have h := bin_size (· * ·) r ⟨#[45, 49]⟩; rw [show rBin (· * ·) r ⟨#[45, 49]⟩ = (mi, j) from e10] at h; exact Nat.le_trans h (by omega)
  have HE := Lib.hid (fun (W : World) => c_namedB (w := W) e9 (c_rMultiple r ⟨#[50]⟩ hzr (by decide)))
  have HMI := hqN e10 fun _ => c_rMul r ⟨#[45, 49]⟩ hzr (by decide)
  have HO := Lib.hid (fun (W : World) => c_namedB (w := W) e11 (c_rMultiple mi ⟨#[50]⟩ hzmi (by decide)))
  subst hi
  subst hu
  subst he
  have b2 : decide (0 ≤ v) = true := decide_eq_true (by omega)
  clear hv e9 e10 e11 hzmi
  clear ha na e1 e2 e3 e4 e5 e6 e7 e8 hI p1 p2 nf nr hzf hzr hzm hzd hx
  go_enter Tryd.func7, Tryd.ntmps7
  go_wp2_with fail
  refine (HC1.out _).mono ?_
  rintro e w1 ⟨rfl, hb1⟩
  go_wp2_with fail
  refine (HC2.out _).mono ?_
  rintro e w2 ⟨rfl, hb2⟩
  go_wp2_with fail
  refine (c_rIs' a HA.out HI.out).mono ?_
  rintro e w3 ⟨rfl, hb3⟩
  go_wp2_with fail
  refine (HP1.out _).mono ?_
  rintro e w4 ⟨rfl, hb4⟩
  go_wp2_with fail
  refine (HP2.out _).mono ?_
  rintro e w5 ⟨rfl, hb5⟩
  go_wp2_with fail
  refine (HX.out _).mono ?_
  rintro e w6 ⟨rfl, hb6⟩
  go_wp2_with fail
  refine (c_sum HZF.out (by decide) HM.out).mono ?_
  rintro e w7 ⟨rfl, hb7⟩
  go_wp2_with fail
  refine (HY.out _).mono ?_
  rintro e w8 ⟨rfl, hb8⟩
  go_wp2_with fail
  refine (HD.out _).mono ?_
  rintro e w9 ⟨rfl, hb9⟩
  go_wp2_with fail
  refine (HU.out _).mono ?_
  rintro e w10 ⟨rfl, hb10⟩
  go_wp2_with fail
  refine (HV.out _).mono ?_
  rintro e w11 ⟨rfl, hb11⟩
  go_wp2_with fail
  refine (HE.out _).mono ?_
  rintro e w12 ⟨rfl, hb12⟩
  go_wp2_with fail
  refine (HMI.out _).mono ?_
  rintro e w13 ⟨rfl, hb13⟩
  go_wp2_with fail
  refine (HO.out _).mono ?_
  rintro e w14 ⟨rfl, hb14⟩
  go_wp2_with fail
  refine (c_alive).mono ?_
  rintro e w15 ⟨rfl, hb15⟩
  go_wp2_with fail
  go_ret
  exact ⟨rfl, blq⟩
theorem floor_yfuo (a : ByteArray) {q : Rat} (na : numB a = some q) {f r m d : ByteArray} {z x y e g i u ue v ve : Int} (nr : numB r = some (z : Rat)) (e1 : rFloor a = (f, 0)) (e2 : rRound a = (r, 0)) (e3 : rCmp f a = (x, e)) (e4 : rSum f ⟨#[49]⟩ = (m, false)) (e5 : rCmp m a = (y, g)) (e6 : rSub r a = (d, i)) (e7 : rCmp d ⟨#[49, 47, 50]⟩ = (u, ue)) (e8 : rCmp d ⟨#[45, 49, 47, 50]⟩ = (v, ve)) {mi : ByteArray} {ev od : Bool} {j k1 k2 : Int} (e9 : rMultiple r ⟨#[50]⟩ = (ev, k1)) (e10 : rMul r ⟨#[45, 49]⟩ = (mi, j)) (e11 : rMultiple mi ⟨#[50]⟩ = (od, k2)) (hi : i = 0) (hu : u = 0) (hv : 0 ≤ v) (he : ev = false) (ho : od = true) :
    Calls Tryd.prog 7 #[.string a] w fun e w' => e = .returned (.bool true) ∧ Below w.heap.size w w' := by
  obtain ⟨ha, hI, nf, hzf, hzr, hzm, hzd, ⟨n1, p1⟩, ⟨n2, p2⟩, hx⟩ := floor_pre a na nr e1 e3 e4 e6
  have HA := Lib.hid ha
  have HI := Lib.hid hI
  have HC1 := hqN e1 fun _ => c_rFloor a ha
  have HC2 := hqN e2 fun _ => c_rRound a ha
  have HP1 := hqP p1 fun _ => c_rParts f hzf
  have HP2 := hqP p2 fun _ => c_rParts r hzr
  have HX := hqI e3 fun _ => c_rCmp f a hzf ha
  have HY := hqI e5 fun _ => c_rCmp m a hzm ha
  have HD := hqN e6 fun _ => c_rSub r a hzr ha
  have HU := hqI e7 fun _ => c_rCmp d ⟨#[49, 47, 50]⟩ hzd (by decide)
  have HV := hqI e8 fun _ => c_rCmp d ⟨#[45, 49, 47, 50]⟩ hzd (by decide)
  have HZF := Lib.hid hzf
  have HM := Lib.hid e4
  have dx : decide (0 < x) = false := by simpa using hx
  have hzmi : mi.size ≤ 140737488351232 := by have h := bin_size (· * ·) r ⟨#[45, 49]⟩; rw [show rBin (· * ·) r ⟨#[45, 49]⟩ = (mi, j) from e10] at h; exact Nat.le_trans h (by omega)
  have HE := Lib.hid (fun (W : World) => c_namedB (w := W) e9 (c_rMultiple r ⟨#[50]⟩ hzr (by decide)))
  have HMI := hqN e10 fun _ => c_rMul r ⟨#[45, 49]⟩ hzr (by decide)
  have HO := Lib.hid (fun (W : World) => c_namedB (w := W) e11 (c_rMultiple mi ⟨#[50]⟩ hzmi (by decide)))
  subst hi
  subst hu
  subst he
  subst ho
  have b2 : decide (0 ≤ v) = true := decide_eq_true (by omega)
  clear hv e9 e10 e11 hzmi
  clear ha na e1 e2 e3 e4 e5 e6 e7 e8 hI p1 p2 nf nr hzf hzr hzm hzd hx
  go_enter Tryd.func7, Tryd.ntmps7
  go_wp2_with fail
  refine (HC1.out _).mono ?_
  rintro e w1 ⟨rfl, hb1⟩
  go_wp2_with fail
  refine (HC2.out _).mono ?_
  rintro e w2 ⟨rfl, hb2⟩
  go_wp2_with fail
  refine (c_rIs' a HA.out HI.out).mono ?_
  rintro e w3 ⟨rfl, hb3⟩
  go_wp2_with fail
  refine (HP1.out _).mono ?_
  rintro e w4 ⟨rfl, hb4⟩
  go_wp2_with fail
  refine (HP2.out _).mono ?_
  rintro e w5 ⟨rfl, hb5⟩
  go_wp2_with fail
  refine (HX.out _).mono ?_
  rintro e w6 ⟨rfl, hb6⟩
  go_wp2_with fail
  refine (c_sum HZF.out (by decide) HM.out).mono ?_
  rintro e w7 ⟨rfl, hb7⟩
  go_wp2_with fail
  refine (HY.out _).mono ?_
  rintro e w8 ⟨rfl, hb8⟩
  go_wp2_with fail
  refine (HD.out _).mono ?_
  rintro e w9 ⟨rfl, hb9⟩
  go_wp2_with fail
  refine (HU.out _).mono ?_
  rintro e w10 ⟨rfl, hb10⟩
  go_wp2_with fail
  refine (HV.out _).mono ?_
  rintro e w11 ⟨rfl, hb11⟩
  go_wp2_with fail
  refine (HE.out _).mono ?_
  rintro e w12 ⟨rfl, hb12⟩
  go_wp2_with fail
  refine (HMI.out _).mono ?_
  rintro e w13 ⟨rfl, hb13⟩
  go_wp2_with fail
  refine (HO.out _).mono ?_
  rintro e w14 ⟨rfl, hb14⟩
  go_wp2_with fail
  refine (c_alive).mono ?_
  rintro e w15 ⟨rfl, hb15⟩
  go_wp2_with fail
  go_ret
  exact ⟨rfl, blq⟩
theorem floor_yfve (a : ByteArray) {q : Rat} (na : numB a = some q) {f r m d : ByteArray} {z x y e g i u ue v ve : Int} (nr : numB r = some (z : Rat)) (e1 : rFloor a = (f, 0)) (e2 : rRound a = (r, 0)) (e3 : rCmp f a = (x, e)) (e4 : rSum f ⟨#[49]⟩ = (m, false)) (e5 : rCmp m a = (y, g)) (e6 : rSub r a = (d, i)) (e7 : rCmp d ⟨#[49, 47, 50]⟩ = (u, ue)) (e8 : rCmp d ⟨#[45, 49, 47, 50]⟩ = (v, ve)) {mi : ByteArray} {ev od : Bool} {j k1 k2 : Int} (e9 : rMultiple r ⟨#[50]⟩ = (ev, k1)) (e10 : rMul r ⟨#[45, 49]⟩ = (mi, j)) (e11 : rMultiple mi ⟨#[50]⟩ = (od, k2)) (hi : i = 0) (hu : u < 0) (hv : v = 0) (he : ev = true) :
    Calls Tryd.prog 7 #[.string a] w fun e w' => e = .returned (.bool true) ∧ Below w.heap.size w w' := by
  obtain ⟨ha, hI, nf, hzf, hzr, hzm, hzd, ⟨n1, p1⟩, ⟨n2, p2⟩, hx⟩ := floor_pre a na nr e1 e3 e4 e6
  have HA := Lib.hid ha
  have HI := Lib.hid hI
  have HC1 := hqN e1 fun _ => c_rFloor a ha
  have HC2 := hqN e2 fun _ => c_rRound a ha
  have HP1 := hqP p1 fun _ => c_rParts f hzf
  have HP2 := hqP p2 fun _ => c_rParts r hzr
  have HX := hqI e3 fun _ => c_rCmp f a hzf ha
  have HY := hqI e5 fun _ => c_rCmp m a hzm ha
  have HD := hqN e6 fun _ => c_rSub r a hzr ha
  have HU := hqI e7 fun _ => c_rCmp d ⟨#[49, 47, 50]⟩ hzd (by decide)
  have HV := hqI e8 fun _ => c_rCmp d ⟨#[45, 49, 47, 50]⟩ hzd (by decide)
  have HZF := Lib.hid hzf
  have HM := Lib.hid e4
  have dx : decide (0 < x) = false := by simpa using hx
  have hzmi : mi.size ≤ 140737488351232 := by have h := bin_size (· * ·) r ⟨#[45, 49]⟩; rw [show rBin (· * ·) r ⟨#[45, 49]⟩ = (mi, j) from e10] at h; exact Nat.le_trans h (by omega)
  have HE := Lib.hid (fun (W : World) => c_namedB (w := W) e9 (c_rMultiple r ⟨#[50]⟩ hzr (by decide)))
  have HMI := hqN e10 fun _ => c_rMul r ⟨#[45, 49]⟩ hzr (by decide)
  have HO := Lib.hid (fun (W : World) => c_namedB (w := W) e11 (c_rMultiple mi ⟨#[50]⟩ hzmi (by decide)))
  subst hi
  subst hv
  subst he
  have b1 : decide (u ≤ 0) = true := decide_eq_true (by omega)
  have b3 : (u != 0) = true := bne_iff_ne.2 (by omega)
  clear hu e9 e10 e11 hzmi
  clear ha na e1 e2 e3 e4 e5 e6 e7 e8 hI p1 p2 nf nr hzf hzr hzm hzd hx
  go_enter Tryd.func7, Tryd.ntmps7
  go_wp2_with fail
  refine (HC1.out _).mono ?_
  rintro e w1 ⟨rfl, hb1⟩
  go_wp2_with fail
  refine (HC2.out _).mono ?_
  rintro e w2 ⟨rfl, hb2⟩
  go_wp2_with fail
  refine (c_rIs' a HA.out HI.out).mono ?_
  rintro e w3 ⟨rfl, hb3⟩
  go_wp2_with fail
  refine (HP1.out _).mono ?_
  rintro e w4 ⟨rfl, hb4⟩
  go_wp2_with fail
  refine (HP2.out _).mono ?_
  rintro e w5 ⟨rfl, hb5⟩
  go_wp2_with fail
  refine (HX.out _).mono ?_
  rintro e w6 ⟨rfl, hb6⟩
  go_wp2_with fail
  refine (c_sum HZF.out (by decide) HM.out).mono ?_
  rintro e w7 ⟨rfl, hb7⟩
  go_wp2_with fail
  refine (HY.out _).mono ?_
  rintro e w8 ⟨rfl, hb8⟩
  go_wp2_with fail
  refine (HD.out _).mono ?_
  rintro e w9 ⟨rfl, hb9⟩
  go_wp2_with fail
  refine (HU.out _).mono ?_
  rintro e w10 ⟨rfl, hb10⟩
  go_wp2_with fail
  refine (HV.out _).mono ?_
  rintro e w11 ⟨rfl, hb11⟩
  go_wp2_with fail
  refine (HE.out _).mono ?_
  rintro e w12 ⟨rfl, hb12⟩
  go_wp2_with fail
  refine (HMI.out _).mono ?_
  rintro e w13 ⟨rfl, hb13⟩
  go_wp2_with fail
  refine (HO.out _).mono ?_
  rintro e w14 ⟨rfl, hb14⟩
  go_wp2_with fail
  refine (c_alive).mono ?_
  rintro e w15 ⟨rfl, hb15⟩
  go_wp2_with fail
  go_ret
  exact ⟨rfl, blq⟩
theorem floor_yfvo (a : ByteArray) {q : Rat} (na : numB a = some q) {f r m d : ByteArray} {z x y e g i u ue v ve : Int} (nr : numB r = some (z : Rat)) (e1 : rFloor a = (f, 0)) (e2 : rRound a = (r, 0)) (e3 : rCmp f a = (x, e)) (e4 : rSum f ⟨#[49]⟩ = (m, false)) (e5 : rCmp m a = (y, g)) (e6 : rSub r a = (d, i)) (e7 : rCmp d ⟨#[49, 47, 50]⟩ = (u, ue)) (e8 : rCmp d ⟨#[45, 49, 47, 50]⟩ = (v, ve)) {mi : ByteArray} {ev od : Bool} {j k1 k2 : Int} (e9 : rMultiple r ⟨#[50]⟩ = (ev, k1)) (e10 : rMul r ⟨#[45, 49]⟩ = (mi, j)) (e11 : rMultiple mi ⟨#[50]⟩ = (od, k2)) (hi : i = 0) (hu : u < 0) (hv : v = 0) (he : ev = false) (ho : od = true) :
    Calls Tryd.prog 7 #[.string a] w fun e w' => e = .returned (.bool true) ∧ Below w.heap.size w w' := by
  obtain ⟨ha, hI, nf, hzf, hzr, hzm, hzd, ⟨n1, p1⟩, ⟨n2, p2⟩, hx⟩ := floor_pre a na nr e1 e3 e4 e6
  have HA := Lib.hid ha
  have HI := Lib.hid hI
  have HC1 := hqN e1 fun _ => c_rFloor a ha
  have HC2 := hqN e2 fun _ => c_rRound a ha
  have HP1 := hqP p1 fun _ => c_rParts f hzf
  have HP2 := hqP p2 fun _ => c_rParts r hzr
  have HX := hqI e3 fun _ => c_rCmp f a hzf ha
  have HY := hqI e5 fun _ => c_rCmp m a hzm ha
  have HD := hqN e6 fun _ => c_rSub r a hzr ha
  have HU := hqI e7 fun _ => c_rCmp d ⟨#[49, 47, 50]⟩ hzd (by decide)
  have HV := hqI e8 fun _ => c_rCmp d ⟨#[45, 49, 47, 50]⟩ hzd (by decide)
  have HZF := Lib.hid hzf
  have HM := Lib.hid e4
  have dx : decide (0 < x) = false := by simpa using hx
  have hzmi : mi.size ≤ 140737488351232 := by have h := bin_size (· * ·) r ⟨#[45, 49]⟩; rw [show rBin (· * ·) r ⟨#[45, 49]⟩ = (mi, j) from e10] at h; exact Nat.le_trans h (by omega)
  have HE := Lib.hid (fun (W : World) => c_namedB (w := W) e9 (c_rMultiple r ⟨#[50]⟩ hzr (by decide)))
  have HMI := hqN e10 fun _ => c_rMul r ⟨#[45, 49]⟩ hzr (by decide)
  have HO := Lib.hid (fun (W : World) => c_namedB (w := W) e11 (c_rMultiple mi ⟨#[50]⟩ hzmi (by decide)))
  subst hi
  subst hv
  subst he
  subst ho
  have b1 : decide (u ≤ 0) = true := decide_eq_true (by omega)
  have b3 : (u != 0) = true := bne_iff_ne.2 (by omega)
  clear hu e9 e10 e11 hzmi
  clear ha na e1 e2 e3 e4 e5 e6 e7 e8 hI p1 p2 nf nr hzf hzr hzm hzd hx
  go_enter Tryd.func7, Tryd.ntmps7
  go_wp2_with fail
  refine (HC1.out _).mono ?_
  rintro e w1 ⟨rfl, hb1⟩
  go_wp2_with fail
  refine (HC2.out _).mono ?_
  rintro e w2 ⟨rfl, hb2⟩
  go_wp2_with fail
  refine (c_rIs' a HA.out HI.out).mono ?_
  rintro e w3 ⟨rfl, hb3⟩
  go_wp2_with fail
  refine (HP1.out _).mono ?_
  rintro e w4 ⟨rfl, hb4⟩
  go_wp2_with fail
  refine (HP2.out _).mono ?_
  rintro e w5 ⟨rfl, hb5⟩
  go_wp2_with fail
  refine (HX.out _).mono ?_
  rintro e w6 ⟨rfl, hb6⟩
  go_wp2_with fail
  refine (c_sum HZF.out (by decide) HM.out).mono ?_
  rintro e w7 ⟨rfl, hb7⟩
  go_wp2_with fail
  refine (HY.out _).mono ?_
  rintro e w8 ⟨rfl, hb8⟩
  go_wp2_with fail
  refine (HD.out _).mono ?_
  rintro e w9 ⟨rfl, hb9⟩
  go_wp2_with fail
  refine (HU.out _).mono ?_
  rintro e w10 ⟨rfl, hb10⟩
  go_wp2_with fail
  refine (HV.out _).mono ?_
  rintro e w11 ⟨rfl, hb11⟩
  go_wp2_with fail
  refine (HE.out _).mono ?_
  rintro e w12 ⟨rfl, hb12⟩
  go_wp2_with fail
  refine (HMI.out _).mono ?_
  rintro e w13 ⟨rfl, hb13⟩
  go_wp2_with fail
  refine (HO.out _).mono ?_
  rintro e w14 ⟨rfl, hb14⟩
  go_wp2_with fail
  refine (c_alive).mono ?_
  rintro e w15 ⟨rfl, hb15⟩
  go_wp2_with fail
  go_ret
  exact ⟨rfl, blq⟩
theorem c_RatFloor (a : ByteArray) (ha : a.size ≤ 140737488351232) : Calls Tryd.prog 7 #[.string a] w fun e w' => e = .returned (.bool true) ∧ Below w.heap.size w w' := by
  cases na : numB a with
  | none => exact floor_n a ha na
  | some q =>
    obtain ⟨f, e', e1⟩ : ∃ s k, rFloor a = (s, k) := ⟨_, _, rfl⟩
    obtain ⟨r, g', e2⟩ : ∃ s k, rRound a = (s, k) := ⟨_, _, rfl⟩
    by_cases he : e' = 0
    · by_cases hg : g' = 0
      · subst he
        subst hg
        obtain ⟨z, hz, s1, s2, s3⟩ := round_spec q
        have nr : numB r = some ((z : Int) : Rat) := by
          have h2 : rRound a = tellB (roundQ q) := un_yes na
          rw [e2] at h2
          obtain ⟨h3, h4⟩ := tell_yes (q := roundQ q) (by rw [← h2])
          rw [h4] at h2; injection h2 with h5 _; rw [h5, ← hz]; exact numB_str h3
        obtain ⟨x, e, e3⟩ : ∃ s k, rCmp f a = (s, k) := ⟨_, _, rfl⟩
        obtain ⟨m, k, e4⟩ : ∃ s k, rSum f ⟨#[49]⟩ = (s, k) := ⟨_, _, rfl⟩
        obtain ⟨y, g, e5⟩ : ∃ s k, rCmp m a = (s, k) := ⟨_, _, rfl⟩
        obtain ⟨d, i, e6⟩ : ∃ s k, rSub r a = (s, k) := ⟨_, _, rfl⟩
        obtain ⟨u, ue, e7⟩ : ∃ s k, rCmp d ⟨#[49, 47, 50]⟩ = (s, k) := ⟨_, _, rfl⟩
        obtain ⟨v, ve, e8⟩ : ∃ s k, rCmp d ⟨#[45, 49, 47, 50]⟩ = (s, k) := ⟨_, _, rfl⟩
        obtain ⟨ev, k1, e9⟩ : ∃ s k, rMultiple r ⟨#[50]⟩ = (s, k) := ⟨_, _, rfl⟩
        obtain ⟨mi, j, e10⟩ : ∃ s k, rMul r ⟨#[45, 49]⟩ = (s, k) := ⟨_, _, rfl⟩
        obtain ⟨od, k2, e11⟩ : ∃ s k, rMultiple mi ⟨#[50]⟩ = (s, k) := ⟨_, _, rfl⟩
        by_cases hi : i = 0
        · have nd : numB d = some ((z : Rat) - q) := by
            have h2 : rSub r a = tellB ((z : Rat) - q) := bin_yes nr na
            rw [e6, hi] at h2
            obtain ⟨h3, h4⟩ := tell_yes (q := (z : Rat) - q) (by rw [← h2])
            rw [h4] at h2; injection h2 with h5 _; rw [h5]; exact numB_str h3
          have hu : u = ((z : Rat) - q - 1 / 2).num.sign := by rw [cmp_yes nd n12] at e7; injection e7 with h _; exact h.symm
          have hv : v = ((z : Rat) - q - (-1 / 2)).num.sign := by rw [cmp_yes nd nm12] at e8; injection e8 with h _; exact h.symm
          have hu0 : u ≤ 0 := by rw [hu]; exact sign_np (by grind)
          have hv0 : 0 ≤ v := by
            rw [hv]
            by_cases h : (z : Rat) - q - (-1 / 2) = 0
            · rw [h]; decide
            · exact Int.le_of_lt (sign_p (by grind))
          have edge : u = 0 ∨ v = 0 → ev = true ∨ od = true := by
            intro h
            have hz2 : z % 2 = 0 := s3 (h.imp (fun h => by have := sign_zero_of (hu.symm.trans h); grind) (fun h => by have := sign_zero_of (hv.symm.trans h); grind))
            have n2 : numB ⟨#[50]⟩ = some 2 := (si 2 [50] (by decide +kernel)).1
            by_cases h0 : 0 ≤ z
            · left
              rw [rMultiple, nr, n2] at e9
              have e9 : (if (2 : Rat).num.sign ≤ 0 then ((false, 3) : Bool × Int) else (decide (0 ≤ ((z : Rat)).num.sign ∧ ((z : Rat) / 2).den = 1), 0)) = (ev, k1) := e9
              rw [if_neg (by decide)] at e9
              injection e9 with h5 _
              rw [← h5, decide_eq_true_eq]
              exact ⟨Int.sign_nonneg_iff.2 h0, (half_den z).2 hz2⟩
            · right
              have nm1 : numB ⟨#[45, 49]⟩ = some (-1) := (smi (-1) [45, 49] (by decide +kernel)).1
              have h6 : rMul r ⟨#[45, 49]⟩ = tellB ((z : Rat) * -1) := bin_yes nr nm1
              have h7 : (z : Rat) * -1 = ((-z : Int) : Rat) := by rw [Rat.intCast_neg]; grind
              have hs := (numB_some.1 nr).2
              have h8 : Short ((-z : Int) : Rat) := by
                unfold Short at hs ⊢
                exact ⟨by rw [show (((-z : Int) : Rat)).num.natAbs = ((z : Rat)).num.natAbs from Int.natAbs_neg z]; exact hs.1, hs.2⟩
              rw [h7, tellB, if_pos h8, e10] at h6
              injection h6 with h9 _
              rw [rMultiple, h9, numB_str h8, n2] at e11
              have e11 : (if (2 : Rat).num.sign ≤ 0 then ((false, 3) : Bool × Int) else (decide (0 ≤ (((-z : Int) : Rat)).num.sign ∧ (((-z : Int) : Rat) / 2).den = 1), 0)) = (od, k2) := e11
              rw [if_neg (by decide)] at e11
              injection e11 with h5 _
              rw [← h5, decide_eq_true_eq]
              exact ⟨Int.sign_nonneg_iff.2 (show (0 : Int) ≤ -z by omega), (half_den (-z)).2 (by omega)⟩
          cases k
          all_goals
            by_cases hu1 : u = 0
            · rcases edge (.inl hu1) with h | h
              · first | exact floor_ytue a na nr e1 e2 e3 e4 e5 e6 e7 e8 e9 e10 e11 hi hu1 hv0 h | exact floor_yfue a na nr e1 e2 e3 e4 e5 e6 e7 e8 e9 e10 e11 hi hu1 hv0 h
              · cases hev : ev
                · first | exact floor_ytuo a na nr e1 e2 e3 e4 e5 e6 e7 e8 e9 e10 e11 hi hu1 hv0 hev h | exact floor_yfuo a na nr e1 e2 e3 e4 e5 e6 e7 e8 e9 e10 e11 hi hu1 hv0 hev h
                · first | exact floor_ytue a na nr e1 e2 e3 e4 e5 e6 e7 e8 e9 e10 e11 hi hu1 hv0 hev | exact floor_yfue a na nr e1 e2 e3 e4 e5 e6 e7 e8 e9 e10 e11 hi hu1 hv0 hev
            · by_cases hv1 : v = 0
              · rcases edge (.inr hv1) with h | h
                · first | exact floor_ytve a na nr e1 e2 e3 e4 e5 e6 e7 e8 e9 e10 e11 hi (by omega) hv1 h | exact floor_yfve a na nr e1 e2 e3 e4 e5 e6 e7 e8 e9 e10 e11 hi (by omega) hv1 h
                · cases hev : ev
                  · first | exact floor_ytvo a na nr e1 e2 e3 e4 e5 e6 e7 e8 e9 e10 e11 hi (by omega) hv1 hev h | exact floor_yfvo a na nr e1 e2 e3 e4 e5 e6 e7 e8 e9 e10 e11 hi (by omega) hv1 hev h
                  · first | exact floor_ytve a na nr e1 e2 e3 e4 e5 e6 e7 e8 e9 e10 e11 hi (by omega) hv1 hev | exact floor_yfve a na nr e1 e2 e3 e4 e5 e6 e7 e8 e9 e10 e11 hi (by omega) hv1 hev
              · first | exact floor_yts a na nr e1 e2 e3 e4 e5 e6 e7 e8 e9 e10 e11 hi (by omega) (by omega) | exact floor_yfs a na nr e1 e2 e3 e4 e5 e6 e7 e8 e9 e10 e11 hi (by omega) (by omega)
        · cases k
          · exact floor_yfi a na nr e1 e2 e3 e4 e5 e6 e7 e8 hi
          · exact floor_yti a na nr e1 e2 e3 e4 e5 e6 e7 e8 hi
      · exact floor_g a na e1 e2 he hg
    · exact floor_e a na e1 e2 he
end
end Go.Proofs.YtpdghgfbfmaplaaDoor.Wh
