/- The walk of the statement RatCommon. -/
import Derived.Test.YtpdghgfbfmaplaaDoorZXRatCommon
import Derived.IntWalk
import Derived.Deep.DeepCutAuto
set_option linter.unusedVariables false
set_option linter.unusedSimpArgs false
namespace Go.Proofs.YtpdghgfbfmaplaaDoor.Wh
open Go.RowKit Go.Proofs.YtpdghgfbfmaplaaDoorW.PrintWords Go.Proofs.YtpdghgfbfmaplaaDoor.Num Go.Proofs.YtpdghgfbfmaplaaDoor.Dec
theorem ratpos {d : Int} (h : 0 < d) : (0 : Rat) < (d : Rat) := by exact_mod_cast h
theorem eq_div {x y d : Rat} (hd : 0 < d) : x = y / d ↔ x * d = y := by
  constructor
  · rintro rfl; rw [Rat.div_mul_cancel (by grind)]
  · rintro rfl; rw [Rat.mul_div_cancel (by grind)]
theorem comm_of (a b : Int) {D : Int} (hD : 0 < D) : commQ ((a : Rat) / (D : Rat)) ((b : Rat) / (D : Rat)) = ((Int.gcd a b : Int) : Rat) / (D : Rat) := by
  obtain ⟨x, hx⟩ : ∃ x, (a : Rat) / (D : Rat) = x := ⟨_, rfl⟩
  obtain ⟨y, hy⟩ : ∃ x, (b : Rat) / (D : Rat) = x := ⟨_, rfl⟩
  have dp := ratpos hD
  have hx1 := (eq_div dp).1 hx.symm
  have hy1 := (eq_div dp).1 hy.symm
  rw [hx, hy]
  have nx := num_den x
  have ny := num_den y
  have px : (0 : Int) < (x.den : Int) := by exact_mod_cast x.den_pos
  have py : (0 : Int) < (y.den : Int) := by exact_mod_cast y.den_pos
  have ex : x.num * D = a * x.den := by
    have : (x.num : Rat) * (D : Rat) = (a : Rat) * ((x.den : Int) : Rat) := by rw [← nx, ← hx1]; grind
    exact_mod_cast this
  have ey : y.num * D = b * y.den := by
    have : (y.num : Rat) * (D : Rat) = (b : Rat) * ((y.den : Int) : Rat) := by rw [← ny, ← hy1]; grind
    exact_mod_cast this
  have key : ((Int.gcd (x.num * y.den) (y.num * x.den) : Nat) : Int) * D = ((Int.gcd a b : Nat) : Int) * ((x.den : Int) * y.den) := by
    have h1 := Int.gcd_mul_right (x.num * y.den) D (y.num * x.den)
    have h2 := Int.gcd_mul_right a ((x.den : Int) * y.den) b
    have e1 : x.num * y.den * D = a * (x.den * y.den) := by
      calc x.num * y.den * D = (x.num * D) * y.den := by rw [Int.mul_assoc, Int.mul_comm (y.den : Int) D, Int.mul_assoc]
        _ = a * (x.den * y.den) := by rw [ex, Int.mul_assoc]
    have e2 : y.num * x.den * D = b * (x.den * y.den) := by
      calc y.num * x.den * D = (y.num * D) * x.den := by rw [Int.mul_assoc, Int.mul_comm (x.den : Int) D, Int.mul_assoc]
        _ = b * (x.den * y.den) := by rw [ey, Int.mul_assoc, Int.mul_comm (y.den : Int)]
    rw [e1, e2, h2] at h1
    have h3 : (D.natAbs : Int) = D := Int.natAbs_of_nonneg (Int.le_of_lt hD)
    have h4 : ((((x.den : Int) * y.den).natAbs : Nat) : Int) = (x.den : Int) * y.den := Int.natAbs_of_nonneg (Int.le_of_lt (Int.mul_pos px py))
    have h5 : ((Int.gcd a b * ((x.den : Int) * y.den).natAbs : Nat) : Int) = ((Int.gcd (x.num * y.den) (y.num * x.den) * D.natAbs : Nat) : Int) := by rw [h1]
    rw [Int.natCast_mul, Int.natCast_mul, h3, h4] at h5
    exact h5.symm
  have dxy := ratpos (Int.mul_pos px py)
  unfold commQ
  rw [Rat.divInt_eq_div]
  refine (eq_div dp).2 ?_
  have k2 : ((((Int.gcd (x.num * y.den) (y.num * x.den) : Nat) : Int)) : Rat) * (D : Rat) = (((Int.gcd a b : Nat) : Int) : Rat) * (((x.den : Int) * y.den : Int) : Rat) := by exact_mod_cast key
  have hne : ¬ ((((x.den : Int) * y.den : Int)) : Rat) = 0 := by grind
  generalize ((((x.den : Int) * y.den : Int)) : Rat) = E at *
  generalize ((((Int.gcd (x.num * y.den) (y.num * x.den) : Nat) : Int)) : Rat) = g at *
  rw [show g / E * (D : Rat) = (g * (D : Rat)) / E by grind, k2, Rat.mul_div_cancel hne]
theorem both (x y : Rat) : ∃ a b D : Int, 0 < D ∧ x = (a : Rat) / (D : Rat) ∧ y = (b : Rat) / (D : Rat) := by
  have px : (0 : Int) < (x.den : Int) := by exact_mod_cast x.den_pos
  have py : (0 : Int) < (y.den : Int) := by exact_mod_cast y.den_pos
  refine ⟨x.num * y.den, y.num * x.den, x.den * y.den, Int.mul_pos px py, (eq_div (ratpos (Int.mul_pos px py))).2 ?_, (eq_div (ratpos (Int.mul_pos px py))).2 ?_⟩
  · rw [Rat.intCast_mul, Rat.intCast_mul, ← num_den x]; grind
  · rw [Rat.intCast_mul, Rat.intCast_mul, ← num_den y]; grind
theorem comm_scale (x y : Rat) {t : Rat} (ht : 0 < t) : commQ (x / t) (y / t) = commQ x y / t := by
  obtain ⟨a, b, D, hD, rfl, rfl⟩ := both x y
  have tp : 0 < t.num := num_pos.2 ht
  have td : (0 : Int) < (t.den : Int) := by exact_mod_cast t.den_pos
  have nt := num_den t
  have dp := ratpos hD
  have tp' := ratpos tp
  have td' := ratpos td
  have e : ∀ z : Int, (z : Rat) / (D : Rat) / t = ((z * (t.den : Int) : Int) : Rat) / ((D * t.num : Int) : Rat) := fun z => by
    rw [Rat.intCast_mul, Rat.intCast_mul, ← nt]
    generalize ((t.den : Int) : Rat) = d at *
    grind
  rw [e a, e b, comm_of _ _ (Int.mul_pos hD tp), comm_of _ _ hD, Int.gcd_mul_right, e]
  rw [Int.natCast_mul, Int.natAbs_of_nonneg (Int.le_of_lt td)]
def Into (u x : Rat) : Prop := ∃ k : Int, x = (k : Rat) * u
theorem comm_into (x y : Rat) : Into (commQ x y) x ∧ Into (commQ x y) y := by
  obtain ⟨a, b, D, hD, rfl, rfl⟩ := both x y
  rw [comm_of _ _ hD]
  obtain ⟨i, hi⟩ := Int.gcd_dvd_left a b
  obtain ⟨j, hj⟩ := Int.gcd_dvd_right a b
  constructor
  · refine ⟨i, ?_⟩
    have : (a : Rat) = (((Int.gcd a b : Nat) : Int) : Rat) * (i : Rat) := by exact_mod_cast hi
    grind
  · refine ⟨j, ?_⟩
    have : (b : Rat) = (((Int.gcd a b : Nat) : Int) : Rat) * (j : Rat) := by exact_mod_cast hj
    grind
theorem comm_pos {x y : Rat} (hx : 0 < x) : 0 < commQ x y := by
  have h : ¬ commQ x y = 0 := by
    intro h0
    obtain ⟨k, hk⟩ := (comm_into x y).1
    rw [h0] at hk
    grind
  obtain ⟨a, b, D, hD, rfl, rfl⟩ := both x y
  rw [comm_of _ _ hD] at h ⊢
  have dp := ratpos hD
  have hn : (0 : Rat) ≤ (((Int.gcd a b : Nat) : Int) : Rat) := by exact_mod_cast Nat.zero_le _
  generalize (((Int.gcd a b : Nat) : Int) : Rat) = g at *
  have h1 : ¬ g = 0 := by intro h2; apply h; grind
  have h2 : 0 < g := by grind
  rw [Rat.div_def]
  exact Rat.mul_pos h2 (Rat.inv_pos.2 dp)
theorem Into.trans {u x y : Rat} (h1 : Into u x) (h2 : Into x y) : Into u y := by
  obtain ⟨i, hi⟩ := h1
  obtain ⟨j, hj⟩ := h2
  exact ⟨j * i, by rw [hj, hi, Rat.intCast_mul]; grind⟩
theorem Into.refl (x : Rat) : Into x x := ⟨1, by grind⟩
theorem fold_pos : ∀ (l : List Rat) {x : Rat}, 0 < x → 0 < l.foldl commQ x
  | [], _, h => h
  | _ :: l, _, h => fold_pos l (comm_pos h)
theorem fold_into : ∀ (l : List Rat) (x : Rat), Into (l.foldl commQ x) x ∧ ∀ y ∈ l, Into (l.foldl commQ x) y
  | [], x => ⟨Into.refl x, fun y h => by cases h⟩
  | z :: l, x => by
    obtain ⟨h1, h2⟩ := fold_into l (commQ x z)
    refine ⟨h1.trans (comm_into x z).1, fun y hy => ?_⟩
    rcases List.mem_cons.1 hy with rfl | hy
    · exact h1.trans (comm_into x y).2
    · exact h2 y hy
theorem fold_scale {t : Rat} (ht : 0 < t) : ∀ (l : List Rat) (x : Rat), (l.map (· / t)).foldl commQ (x / t) = l.foldl commQ x / t
  | [], _ => rfl
  | z :: l, x => by
    show (l.map (· / t)).foldl commQ (commQ (x / t) (z / t)) = _
    rw [comm_scale x z ht]
    exact fold_scale ht l (commQ x z)
theorem into_den {u x : Rat} (h : Into u x) (hu : 0 < u) : (x / u).den = 1 := by
  obtain ⟨k, rfl⟩ := h
  rw [Rat.mul_div_cancel (by grind)]
  exact Rat.den_intCast ..
section
variable {w : World}
def tot : List ByteArray → Nat
  | [] => 0
  | s :: l => 4 + s.size + tot l
theorem tot_snoc : ∀ (l : List ByteArray) (s : ByteArray), tot (l ++ [s]) = tot l + (4 + s.size)
  | [], s => by simp [tot]
  | t :: l, s => by simp only [List.cons_append, tot, tot_snoc l s]; omega
theorem tot_app : ∀ (l m : List ByteArray), tot (l ++ m) = tot l + tot m
  | [], m => by simp [tot]
  | t :: l, m => by simp only [List.cons_append, tot, tot_app l m]; omega
theorem tot_len : ∀ (l : List ByteArray), 4 * l.length ≤ tot l
  | [] => by simp [tot]
  | t :: l => by have := tot_len l; simp only [List.length_cons, tot]; omega
theorem tot_mem : ∀ (l : List ByteArray), ∀ s ∈ l, s.size ≤ tot l
  | [], s, h => by cases h
  | t :: l, s, h => by
    rcases List.mem_cons.1 h with rfl | h
    · simp only [tot]; omega
    · have := tot_mem l s h; simp only [tot]; omega
theorem str_at {W : World} {ad : Addr} {l : List ByteArray} {k : Nat} {s : ByteArray} (h : Kd.string.C W (some ad) l.length l) (hk : l[k]? = some s) : W.cell? (ad.add k) = some (.string s) := by
  have hlt : k < l.length := (List.getElem?_eq_some_iff.1 hk).1
  have h1 := Kd.foot_string h (k : Int) (by omega) (by omega)
  rw [Int.toNat_natCast] at h1
  rw [h1]
  have h2 : rdOf ByteArray.empty l (k : Int) = s := by simp [rdOf, hk]
  rw [h2]
set_option maxRecDepth 100000 in
set_option maxHeartbeats 8000000 in
theorem c_long (l : List ByteArray) {A : Option Addr} {c : Nat} (hA : Kd.string.C w A l.length l) (hT : tot l ≤ 1000000000000) :
    Calls Tryd.prog 10 #[.slice A l.length c] w fun e w' => e = .returned (.bool (decide (1200 < tot l))) ∧ Below w.heap.size w w' := by
  have HC := Lib.hid hA
  have HT := Lib.hid hT
  clear hA hT
  go_enter Tryd.func10, Tryd.ntmps10
  go_wp2_with fail
  go_loopw [3, 4] (fun v3 v4 W => ∃ k : Nat, v4 = .int .i64 k ∧ v3 = .int .i64 (tot (l.take k) : Nat) ∧ k ≤ l.length ∧ Below w.heap.size w W) (fun _ v4 _ => l.length - (intOf v4).toNat)
  case atStart => exact ⟨0, rfl, rfl, Nat.zero_le _, Below.refl _ _⟩
  case round =>
    obtain ⟨k, rfl, rfl, hk, hb⟩ := hrel
    obtain ⟨wo, rfl⟩ : ∃ wo : World, wo = wr := ⟨_, rfl⟩
    have HBR := Lib.hid hb
    clear hb
    have hll : 4 * l.length ≤ 1000000000000 := Nat.le_trans (tot_len l) HT.out
    by_cases hlt : k < l.length
    · obtain ⟨s, hs⟩ : ∃ s, l[k]? = some s := ⟨l[k]'hlt, List.getElem?_eq_getElem _⟩
      obtain ⟨ad, rfl⟩ : ∃ ad, A = some ad := by obtain ⟨ad, h, _⟩ := Kd.at_string HC.out (k : Int) (by omega) (by omega); exact ⟨ad, h⟩
      have htk : l.take (k + 1) = l.take k ++ [s] := by rw [List.take_add_one, hs]; rfl
      have hsum : tot (l.take k) + (4 + s.size) ≤ 1000000000000 := by
        rw [← tot_snoc, ← htk]
        have h1 := tot_app (l.take (k + 1)) (l.drop (k + 1))
        rw [List.take_append_drop] at h1
        have := HT.out
        omega
      have HTK := Lib.hid (show tot (l.take (k + 1)) = tot (l.take k) + (4 + s.size) by rw [htk, tot_snoc])
      obtain ⟨T, hTT⟩ : ∃ T, tot (l.take k) = T := ⟨_, rfl⟩
      have HTT := Lib.hid hTT
      rw [hTT] at hsum ⊢
      have hcell := str_at (Kd.C_below HC.out HBR.out) hs
      have hlt' : (k : Int) < (l.length : Int) := by omega
      have hk0 : (0 : Int) ≤ (k : Int) := by omega
      clear hs htk hTT
      go_wp2_with fail
      go_roundw
      case rel => refine ⟨k + 1, by go_num, ?_, hlt, HBR.out⟩; rw [HTK.out, HTT.out]; go_num
      case measure => simp [intOf]; omega
    · obtain rfl : k = l.length := by omega
      rw [List.take_length]
      obtain ⟨T, hTT⟩ : ∃ T, tot l = T := ⟨_, rfl⟩
      have hT9 : T ≤ 1000000000000 := by rw [← hTT]; exact HT.out
      rw [hTT]
      go_wp2_with fail
      go_ret
      exact ⟨by congr 2; simp; omega, have hb0 := HBR.out; blq⟩
theorem c_nameB {F : Nat} {args : Array Value} {r : Bool × Int} {s : Bool} {n : Int} (h : r = (s, n)) (hc : Calls Tryd.prog F args w fun e w' => e = .returned (.tuple #[.bool r.1, .int .i64 r.2]) ∧ Below w.heap.size w w') :
    Calls Tryd.prog F args w fun e w' => e = .returned (.tuple #[.bool s, .int .i64 n]) ∧ Below w.heap.size w w' := by
  subst h; exact hc
theorem com_err {l : List ByteArray} {cs : ByteArray} {e : Int} (h : rCommon l = (cs, e)) (he : ¬ e = 0) : cs = ⟨#[]⟩ := by
  unfold rCommon at h
  split at h
  · injection h with h _; exact h.symm
  · injection h with h _; exact h.symm
  · split at h
    · injection h with h _; exact h.symm
    · unfold tellB at h
      split at h
      · injection h with _ h; exact absurd h.symm he
      · injection h with h _; exact h.symm
theorem com_yes {l : List ByteArray} {cs : ByteArray} (h : rCommon l = (cs, 0)) : ∃ q qr, numsB l = some (q :: qr) ∧ (∀ y ∈ q :: qr, 0 < y) ∧ numB cs = some (qr.foldl commQ q) := by
  unfold rCommon at h
  split at h
  · injection h with _ h; cases h
  · injection h with _ h; cases h
  · rename_i q qr hq
    refine ⟨q, qr, hq, ?_⟩
    split at h
    · injection h with _ h; cases h
    · rename_i hn
      constructor
      · intro y hy
        rw [List.any_eq_true] at hn
        have h1 : ¬ y.num.sign ≤ 0 := fun h2 => hn ⟨y, hy, by simpa using h2⟩
        exact num_pos.1 (Int.sign_pos_iff.1 (by omega))
      · obtain ⟨h1, h2⟩ := tell_yes (q := qr.foldl commQ q) (by rw [h])
        rw [h2] at h
        injection h with h _
        rw [← h]; exact numB_str h1
theorem nums_get : ∀ {l : List ByteArray} {qs : List Rat}, numsB l = some qs → ∀ {k : Nat} {s : ByteArray}, l[k]? = some s → ∃ q, qs[k]? = some q ∧ numB s = some q := by
  intro l
  induction l with
  | nil => intro qs _ k s hk; simp at hk
  | cons t l ih =>
    intro qs h k s hk
    unfold numsB at h
    split at h
    · rename_i x xs h1 h2
      cases h
      cases k with
      | zero => simp at hk; subst hk; exact ⟨x, rfl, h1⟩
      | succ k => simp at hk; obtain ⟨q, h3, h4⟩ := ih h2 hk; exact ⟨q, by simpa using h3, h4⟩
    · cases h
theorem com_one {ps : List ByteArray} {q : Rat} {qr : List Rat} (hp : ∀ y ∈ q :: qr, 0 < y) (h : numsB ps = some ((q :: qr).map (· / qr.foldl commQ q))) : rCommon ps = (⟨#[49]⟩, 0) := by
  have hc : 0 < qr.foldl commQ q := fold_pos qr (hp q (by simp))
  have hany : ((q :: qr).map (· / qr.foldl commQ q)).any (fun y => decide (y.num.sign ≤ 0)) = false := by
    rw [List.any_eq_false]
    intro y hy
    obtain ⟨z, hz, rfl⟩ := List.mem_map.1 hy
    have h1 : 0 < z / qr.foldl commQ q := by rw [Rat.div_def]; exact Rat.mul_pos (hp z hz) (Rat.inv_pos.2 hc)
    have h2 := Int.sign_pos_iff.2 (num_pos.2 h1)
    have h3 : ¬ (z / qr.foldl commQ q).num.sign ≤ 0 := by omega
    exact fun h4 => h3 (of_decide_eq_true h4)
  have hf : (qr.map (· / qr.foldl commQ q)).foldl commQ (q / qr.foldl commQ q) = 1 := by
    rw [fold_scale hc]
    generalize qr.foldl commQ q = C at *
    grind
  unfold rCommon
  rw [h]
  rw [List.map_cons] at hany ⊢
  show (if _ then _ else _) = _
  rw [if_neg (by rw [hany]; decide), hf, tellB, if_pos (show Short 1 from short_small (by decide) (by decide))]
  rw [show strF 1 = dec 1 from rfl, dec_small (by decide)]; rfl
theorem mul_yes {s cs : ByteArray} {q C : Rat} (hs : numB s = some q) (hc : numB cs = some C) (hq : 0 < q) (hC : 0 < C) (h : Into C q) : rMultiple s cs = (true, 0) := by
  have h1 := Int.sign_pos_iff.2 (num_pos.2 hC)
  have h2 := Int.sign_pos_iff.2 (num_pos.2 hq)
  rw [rMultiple, hs, hc]
  show (if _ then _ else _) = _
  rw [if_neg (by omega), decide_eq_true ⟨by omega, into_den h hC⟩]
theorem div_yes {s cs d : ByteArray} {q C : Rat} (hs : numB s = some q) (hc : numB cs = some C) (hC : 0 < C) (h : rDiv s cs = (d, 0)) : numB d = some (q / C) := by
  unfold rDiv at h
  split at h
  · injection h with _ h; cases h
  · rw [bin_yes hs hc] at h
    obtain ⟨h1, h2⟩ := tell_yes (q := q / C) (by rw [h])
    rw [h2] at h
    injection h with h _
    rw [← h]; exact numB_str h1
theorem infoStrC : (Tryd.prog.info? 9).map (fun i => (i.zero, i.size, i.bytes)) = some (some (.string ByteArray.empty), 1, 16) := by kernel_rfl
set_option maxRecDepth 100000 in
set_option maxHeartbeats 8000000 in
theorem comm_long (l : List ByteArray) {A : Option Addr} {c : Nat} (hA : Kd.string.C w A l.length l) (hT : tot l ≤ 1000000000000) (h : 1200 < tot l) :
    Calls Tryd.prog 3 #[.slice A l.length c] w fun e w' => e = .returned (.bool true) ∧ Below w.heap.size w w' := by
  have HC := Lib.hid hA
  have HT := Lib.hid hT
  have HL := Lib.hid (show decide (1200 < tot l) = true from decide_eq_true h)
  have HB := Lib.hid (fun (W : World) => (show Calls Tryd.prog 10 #[.slice A l.length c] w (fun e w' => e = .returned (.bool true) ∧ Below w.heap.size w w') from by have h9 := c_long (c := c) l hA hT; rw [HL.out] at h9; exact h9))
  clear hA hT h
  go_enter Tryd.func3, Tryd.ntmps3
  go_wp2_with fail
  refine (HB.out w).mono ?_
  rintro e w1 ⟨rfl, hb1⟩
  go_wp2_with fail
  refine c_alive.mono ?_
  rintro e wz ⟨rfl, hbz⟩
  go_wp2_with fail
  go_ret
  exact ⟨rfl, blq⟩
set_option maxRecDepth 100000 in
set_option maxHeartbeats 8000000 in
theorem comm_e (l : List ByteArray) {A : Option Addr} {c : Nat} (hA : Kd.string.C w A l.length l) (hT : tot l ≤ 1000000000000) (h : ¬ 1200 < tot l) {e : Int} (he : rCommon l = (⟨#[]⟩, e)) (h0 : ¬ e = 0) :
    Calls Tryd.prog 3 #[.slice A l.length c] w fun e w' => e = .returned (.bool true) ∧ Below w.heap.size w w' := by
  have HC := Lib.hid hA
  have HB := Lib.hid (show Calls Tryd.prog 10 #[.slice A l.length c] w (fun e w' => e = .returned (.bool false) ∧ Below w.heap.size w w') from by have h9 := c_long (c := c) l hA hT; rw [show decide (1200 < tot l) = false from decide_eq_false h] at h9; exact h9)
  have HN := Lib.hid (show l.length ≤ 300 by have := tot_len l; omega)
  have HZ := Lib.hid (show ∀ s ∈ l, s.size ≤ 140737488351232 from fun s hs => by have := tot_mem l s hs; omega)
  have HE := Lib.hid he
  have h1 : (e == 0) = false := by simpa using h0
  clear hA hT h he h0
  go_enter Tryd.func3, Tryd.ntmps3
  go_wp2_with fail
  refine (HB.out).mono ?_
  rintro e w1 ⟨rfl, hb1⟩
  go_wp2_with fail
  refine (c_named HE.out (c_rCommon (c := c) l (Kd.C_below HC.out hb1) (by have := HN.out; omega) HZ.out)).mono ?_
  rintro e w2 ⟨rfl, hb2⟩
  go_wp2_with fail
  refine c_alive.mono ?_
  rintro e wz ⟨rfl, hbz⟩
  go_wp2_with fail
  go_ret
  exact ⟨rfl, blq⟩
set_option maxRecDepth 100000 in
set_option maxHeartbeats 8000000 in
theorem comm_y (l : List ByteArray) {A : Option Addr} {c : Nat} (hA : Kd.string.C w A l.length l) (hT : tot l ≤ 1000000000000) (h : ¬ 1200 < tot l) {cs : ByteArray} (he : rCommon l = (cs, 0)) :
    Calls Tryd.prog 3 #[.slice A l.length c] w fun e w' => e = .returned (.bool true) ∧ Below w.heap.size w w' := by
  have HC := Lib.hid hA
  have HB := Lib.hid (show Calls Tryd.prog 10 #[.slice A l.length c] w (fun e w' => e = .returned (.bool false) ∧ Below w.heap.size w w') from by have h9 := c_long (c := c) l hA hT; rw [show decide (1200 < tot l) = false from decide_eq_false h] at h9; exact h9)
  have HN := Lib.hid (show l.length ≤ 300 by have := tot_len l; omega)
  have HZ := Lib.hid (show ∀ s ∈ l, s.size ≤ 140737488351232 from fun s hs => by have := tot_mem l s hs; omega)
  have HE := Lib.hid he
  obtain ⟨q, qr, hnu, hpos, hcs⟩ := com_yes he
  obtain ⟨qs, hqs⟩ : ∃ qs, q :: qr = qs := ⟨_, rfl⟩
  obtain ⟨C, hC⟩ : ∃ C, qr.foldl commQ q = C := ⟨_, rfl⟩
  have HC0 := Lib.hid (show 0 < C by rw [← hC]; exact fold_pos qr (hpos q (by simp)))
  have HIN := Lib.hid (show ∀ y ∈ qs, Into C y from fun y hy => by rw [← hqs] at hy; rw [← hC]; exact (List.mem_cons.1 hy).elim (fun e => e ▸ (fold_into qr q).1) ((fold_into qr q).2 y))
  have HONE := Lib.hid (show ∀ ps, numsB ps = some (qs.map (· / C)) → rCommon ps = (⟨#[49]⟩, 0) from fun ps hps => com_one hpos (by rw [hqs, hC]; exact hps))
  have hl1 : l.length = qs.length := by rw [← hqs]; exact numsB_len hnu
  have hl0 : 0 < l.length := by rw [hl1, ← hqs]; simp
  rw [hqs] at hnu hpos
  rw [hC] at hcs
  have HNU := Lib.hid hnu
  have HPOS := Lib.hid hpos
  have HCS := Lib.hid hcs
  have HCZ := Lib.hid (show cs.size ≤ 140737488351232 by have := num_size hcs; omega)
  have HL1 := Lib.hid hl1
  have HL0 := Lib.hid hl0
  clear hA hT h he hnu hpos hcs hqs hC hl1 hl0
  go_enter Tryd.func3, Tryd.ntmps3
  go_wp2_with fail
  refine (HB.out).mono ?_
  rintro e w1 ⟨rfl, hb1⟩
  go_wp2_with fail
  refine (c_named HE.out (c_rCommon (c := c) l (Kd.C_below HC.out hb1) (by have := HN.out; omega) HZ.out)).mono ?_
  rintro e w2 ⟨rfl, hb2⟩
  have HB2 := Lib.hid (show Below w.heap.size w w2 from blq)
  clear hb1 hb2
  go_wp2_with fail
  go_loopw [5, 6] (fun v5 v6 W => ∃ (k : Nat) (ps : List ByteArray), v6 = .int .i64 k ∧ k ≤ l.length ∧ Kd.R Kd.string 9 W w.heap.size (fun _ => True) v5 ps ∧ numsB ps = some ((qs.take k).map (· / C)) ∧ (∀ s ∈ ps, s.size ≤ 140737488351232) ∧ Below w.heap.size w W) (fun _ v6 _ => l.length - (intOf v6).toNat)
  case atStart => exact ⟨0, [], rfl, Nat.zero_le _, Kd.R_nil _ _ _ _ _, rfl, by simp, HB2.out⟩
  case round =>
    obtain ⟨k, ps, rfl, hk, hR, hnp, hsz, hb⟩ := hrel
    obtain ⟨wo, rfl⟩ : ∃ wo : World, wo = wr := ⟨_, rfl⟩
    obtain ⟨A5, c5, rfl⟩ := Kd.R_slice hR
    have HR := Lib.hid hR
    have HNP := Lib.hid hnp
    have HSZ := Lib.hid hsz
    have HBW := Lib.hid hb
    have HPL := Lib.hid (show ps.length = k by rw [numsB_len hnp, List.length_map, List.length_take]; have := HL1.out; omega)
    clear hR hnp hsz hb
    have hn3 := HN.out
    have hl0 := HL0.out
    by_cases hlt : k < l.length
    · obtain ⟨s, hs⟩ : ∃ s, l[k]? = some s := ⟨l[k]'hlt, List.getElem?_eq_getElem _⟩
      obtain ⟨ad, rfl⟩ : ∃ ad, A = some ad := by obtain ⟨ad, h, _⟩ := Kd.at_string HC.out (k : Int) (by omega) (by omega); exact ⟨ad, h⟩
      obtain ⟨x, hx, hxs⟩ := nums_get HNU.out hs
      have hxm := List.mem_of_getElem? hx
      have HSS := Lib.hid (HZ.out s (List.mem_of_getElem? hs))
      have HM := Lib.hid (mul_yes hxs HCS.out (HPOS.out x hxm) HC0.out (HIN.out x hxm))
      obtain ⟨d, g, hd⟩ : ∃ d g, rDiv s cs = (d, g) := ⟨_, _, rfl⟩
      have HD := Lib.hid hd
      have HDZ := Lib.hid (show d.size ≤ 140737488351232 from by have h8 := div_size s cs; rw [hd] at h8; exact Nat.le_trans h8 (by omega))
      have HDN := Lib.hid (show g = 0 → numsB (ps ++ [d]) = some ((qs.take (k + 1)).map (· / C)) from by rintro rfl; rw [numsB_snoc, HNP.out, div_yes hxs HCS.out HC0.out hd, List.take_add_one, hx]; simp)
      have hcell := str_at (Kd.C_below HC.out HBW.out) hs
      have HS := Lib.hid hs
      have hlt' : (k : Int) < (l.length : Int) := by omega
      have hk0 : (0 : Int) ≤ (k : Int) := by omega
      clear hx hxs hxm hd hs
      go_wp2_with fail
      refine (c_nameB HM.out (c_rMultiple s cs HSS.out HCZ.out)).mono ?_
      rintro e wa ⟨rfl, hba⟩
      have HBA := Lib.hid (show Below w.heap.size w wa from have hb0 := HBW.out; blq)
      have HRA := Lib.hid (Kd.R_below HR.out hba)
      clear hba hcell
      have hcell := str_at (Kd.C_below HC.out HBA.out) HS.out
      go_wp2_with fail
      refine (c_named HD.out (c_rDiv s cs HSS.out HCZ.out)).mono ?_
      rintro e wb ⟨rfl, hbb⟩
      have HBB := Lib.hid (show Below w.heap.size w wb from have hb0 := HBA.out; blq)
      have HRB := Lib.hid (Kd.R_below HRA.out hbb)
      clear hbb hcell
      by_cases h0 : g = 0
      · subst h0
        have hpl : ps.length ≤ 300 := by have := HPL.out; omega
        go_wp2_with (at_builtin; go_must (refine Kd.R_append Kd.string (w0 := w) w.heap.size rfl (.tmp 61) (.tmp 63) 22 9 (.string ByteArray.empty) 16 rfl Tryd.underlying22 infoStrC rfl (by decide) (by decide) (.slice A5 ps.length c5) ps d [.string d] (fun _ => True) (fun _ => False) rfl rfl rfl (fun _ hk => hk.elim) (fun _ _ => trivial) HRB.out HBB.out HBB.out.size (by omega) ?_); intro v9 w9 hr9 hb9 hg9 hat9; have HR9 := Lib.hid hr9; have HB9 := Lib.hid hb9; clear hr9 hb9 hg9 hat9)
        go_roundw
        case rel => exact ⟨k + 1, ps ++ [d], by go_num, hlt, HR9.out, HDN.out (by first | rfl | trivial), fun t ht => (List.mem_append.1 ht).elim (HSZ.out t) (fun h => by rw [List.mem_singleton.1 h]; exact HDZ.out), HB9.out⟩
        case measure => simp [intOf]; omega
      · have h1 : (g == 0) = false := by simpa using h0
        go_wp2_with fail
        all_goals first | (exfalso; exact h0 (by with_reducible assumption)) | skip
        all_goals refine c_alive.mono ?_
        all_goals rintro e wz ⟨rfl, hbz⟩
        all_goals go_wp2_with fail
        all_goals go_ret
        all_goals exact ⟨rfl, have hb0 := HBB.out; blq⟩
    · obtain rfl : k = l.length := by omega
      have HO := Lib.hid (HONE.out ps (by have := HNP.out; rwa [HL1.out, List.take_length] at this))
      have hpl : ps.length ≤ 300 := by have := HPL.out; omega
      have hlp : (0 : Int) < (l.length : Int) := by omega
      have HRC := Lib.hid (Kd.R_reads' HR.out).2.2
      go_wp2_with fail
      refine (c_named HO.out (c_rCommon (c := c5) ps HRC.out (by omega) HSZ.out)).mono ?_
      rintro e wy ⟨rfl, hby⟩
      go_wp2_with fail
      refine c_alive.mono ?_
      rintro e wz ⟨rfl, hbz⟩
      go_wp2_with fail
      go_ret
      exact ⟨rfl, have hb0 := HBW.out; blq⟩
theorem c_RatCommon (l : List ByteArray) {A : Option Addr} {c : Nat} (hA : Kd.string.C w A l.length l) (hT : tot l ≤ 1000000000000) :
    Calls Tryd.prog 3 #[.slice A l.length c] w fun e w' => e = .returned (.bool true) ∧ Below w.heap.size w w' := by
  by_cases h : 1200 < tot l
  · exact comm_long l hA hT h
  · obtain ⟨cs, e, he⟩ : ∃ cs e, rCommon l = (cs, e) := ⟨_, _, rfl⟩
    by_cases h0 : e = 0
    · subst h0; exact comm_y l hA hT h he
    · obtain rfl := com_err he h0
      exact comm_e l hA hT h he h0
end
end Go.Proofs.YtpdghgfbfmaplaaDoor.Wh
