/- Further lemmas for the statement RatSimplest: merged by wip/extra.py. -/
import Derived.Test.YtpdghgfbfmaplaaDoorQA
import Derived.Test.YtpdghgfbfmaplaaDoorQB
import Derived.Test.YtpdghgfbfmaplaaDoorQC
import Derived.Test.YtpdghgfbfmaplaaDoorZPWholex2
import Derived.Test.YtpdghgfbfmaplaaDoorZPWholex3
import Derived.Test.YtpdghgfbfmaplaaDoorZPWholex4
import Derived.Test.YtpdghgfbfmaplaaDoorQG
import Derived.Test.YtpdghgfbfmaplaaDoorQH
import Derived.Test.YtpdghgfbfmaplaaDoorZWhI
import Derived.Test.YtpdghgfbfmaplaaDoorZWhJ
import Derived.Test.YtpdghgfbfmaplaaDoorZDiv0
import Derived.Test.YtpdghgfbfmaplaaDoorZDivR9
import Derived.Test.YtpdghgfbfmaplaaDoorZDiv1
import Derived.Test.YtpdghgfbfmaplaaDoorZWhK
import Derived.Test.YtpdghgfbfmaplaaDoorZWhL
import Derived.Test.YtpdghgfbfmaplaaDoorQM
import Derived.Test.YtpdghgfbfmaplaaDoorZWhS
import Derived.Test.YtpdghgfbfmaplaaDoorZWhP
import Derived.Test.YtpdghgfbfmaplaaDoorZFrA
import Derived.Test.YtpdghgfbfmaplaaDoorZFrB
import Derived.Test.YtpdghgfbfmaplaaDoorZFrC
import Derived.Test.YtpdghgfbfmaplaaDoorZFrD
import Derived.Test.YtpdghgfbfmaplaaDoorZFrE
import Derived.Test.YtpdghgfbfmaplaaDoorZFrP
import Derived.Test.YtpdghgfbfmaplaaDoorQK
import Derived.Test.YtpdghgfbfmaplaaDoorQL
import Derived.Test.YtpdghgfbfmaplaaDoorZRatC
import Derived.Test.YtpdghgfbfmaplaaDoorZRatD
import Derived.Test.YtpdghgfbfmaplaaDoorZOrdL
import Derived.Test.YtpdghgfbfmaplaaDoorZFrW
import Derived.Test.YtpdghgfbfmaplaaDoorZRatE
import Derived.Test.YtpdghgfbfmaplaaDoorZRatF
import Derived.Test.YtpdghgfbfmaplaaDoorZRatG
import Derived.Test.YtpdghgfbfmaplaaDoorZRatV
import Derived.Test.YtpdghgfbfmaplaaDoorZRatL
section
set_option linter.unusedVariables false
namespace Go.Proofs.YtpdghgfbfmaplaaDoor.Dec
open Go.Proofs.YtpdghgfbfmaplaaDoor.Num
theorem strW_ne (z : Int) : strW z ≠ [] := by
  unfold strW; split
  · simp
  · exact dec_ne _
end Go.Proofs.YtpdghgfbfmaplaaDoor.Dec
end
section
set_option linter.unusedVariables false
namespace Go.Proofs.YtpdghgfbfmaplaaDoor.Wh
open Go.RowKit Go.Proofs.YtpdghgfbfmaplaaDoor.Num Go.Proofs.YtpdghgfbfmaplaaDoor.Dec
theorem bsOf_inj {l m : List UInt8} (h : bsOf l = bsOf m) : l = m := by rw [← bsOf_list l, h, bsOf_list]
noncomputable def rDiv (a b : ByteArray) : ByteArray × Int := if b = ⟨#[48]⟩ ∧ (numB a).isSome = true then (nob, 12) else rBin (· / ·) a b
noncomputable def rCmp (a b : ByteArray) : Int × Int := match numB a, numB b with
  | some x, some y => ((x - y).num.sign, 0)
  | _, _ => (0, 1)
noncomputable def rParts (a : ByteArray) : ByteArray × ByteArray × Int := match numB a with
  | some x => (bsOf (strW x.num), bsOf (dec x.den), 0)
  | none => (nob, nob, 1)
def rMake (n d : Int) : ByteArray × Int := if d = 0 then (nob, 12) else tellB (Rat.divInt n d)
end Go.Proofs.YtpdghgfbfmaplaaDoor.Wh
end
section
set_option linter.unusedVariables false
set_option linter.unusedSimpArgs false
namespace Go.Proofs.YtpdghgfbfmaplaaDoor.Wh
open Go.RowKit Go.Proofs.YtpdghgfbfmaplaaDoorW.PrintWords Go.Proofs.YtpdghgfbfmaplaaDoor.Num Go.Proofs.YtpdghgfbfmaplaaDoor.Dec
section
variable {w : World}
set_option maxRecDepth 100000 in
set_option maxHeartbeats 1000000 in
theorem c_rCmp (a b : ByteArray) (ha : a.size ≤ 140737488351232) (hb : b.size ≤ 140737488351232) :
    Calls Tryd.prog 16 #[.string a, .string b] w fun e w' => e = .returned (.tuple #[.int .i64 (rCmp a b).1, .int .i64 (rCmp a b).2]) ∧ Below w.heap.size w w' := by
  have HA := Lib.hid ha
  have HB := Lib.hid hb
  clear ha hb
  go_enter Tryd.func16, Tryd.ntmps16
  go_wp2_with fail
  refine (c_parsed (P := fun _ => True) [a, b] (strs_two w a b) (by simp) (by intro s hs; simp at hs; rcases hs with rfl | rfl; exact HA.out; exact HB.out) (fun _ _ => trivial)).mono ?_
  rintro e w1 ⟨⟨qs, xs, v, hq, rfl, hR, hFs⟩ | ⟨hn, rfl⟩, hb1⟩
  · obtain ⟨q, p, h1, h2, rfl⟩ := numsB_two hq
    obtain ⟨x, y, rfl⟩ : ∃ x y, xs = [x, y] := by
      match xs, hFs.1 with
      | [x, y], _ => exact ⟨x, y, rfl⟩
    obtain ⟨g, c, rfl, hfr⟩ := two_row hR
    have HE := Lib.hid (show rCmp a b = ((q - p).num.sign, 0) by rw [rCmp, h1, h2])
    have HX := Lib.hid (hFs.2 0 x q rfl rfl)
    have HY := Lib.hid (hFs.2 1 y p rfl rfl)
    have HFR := Lib.hid hfr
    have HB1 := Lib.hid hb1
    have hg : g < w1.heap.size := hfr.1
    have c0 := hfr.get 0 rfl
    have c1 := hfr.get 1 rfl
    have c2 := hfr.get 2 rfl
    have c3 := hfr.get 3 rfl
    have c4 := hfr.get 4 rfl
    have c5 := hfr.get 5 rfl
    have c6 := hfr.get 6 rfl
    have c7 := hfr.get 7 rfl
    clear hq hR hFs h1 h2 hfr hb1
    go_wp2_with fail
    go_region_held3 (fun W => W.cell? ⟨g, 0, none⟩ = some (.bool x.num.b) ∧ W.cell? ⟨g, 1, none⟩ = some (.slice x.num.A x.num.n x.num.c) ∧ W.cell? ⟨g, 2, none⟩ = some (.bool x.den.b) ∧ W.cell? ⟨g, 3, none⟩ = some (.slice x.den.A x.den.n x.den.c) ∧ W.cell? ⟨g, 4, none⟩ = some (.bool y.num.b) ∧ W.cell? ⟨g, 5, none⟩ = some (.slice y.num.A y.num.n y.num.c) ∧ W.cell? ⟨g, 6, none⟩ = some (.bool y.den.b) ∧ W.cell? ⟨g, 7, none⟩ = some (.slice y.den.A y.den.n y.den.c))
      (exact ⟨(HFR.out.go blq).get 0 rfl, (HFR.out.go blq).get 1 rfl, (HFR.out.go blq).get 2 rfl, (HFR.out.go blq).get 3 rfl, (HFR.out.go blq).get 4 rfl, (HFR.out.go blq).get 5 rfl, (HFR.out.go blq).get 6 rfl, (HFR.out.go blq).get 7 rfl⟩)
      (first
        | (go_at_call 41; go_must (with_reducible refine (c_FCmp (P := fun _ => True) (K := 34) (HX.out.below blq) (HY.out.below blq) (by omega) (fun _ _ => trivial)).mono ?_); rintro e w2 ⟨rfl, hb2⟩))
    go_wp2_with fail
    go_ret2
    exact ⟨by rw [HE.out]; rfl, have hb9 := HB1.out; blq⟩
  · have HE := Lib.hid (show rCmp a b = (0, 1) by
      rcases numsB_two_none hn with h | h
      · rw [rCmp, h]
      · rw [rCmp, h]; cases numB a <;> rfl)
    have HB1 := Lib.hid hb1
    clear hn hb1
    go_wp2_with fail
    go_ret2
    exact ⟨by rw [HE.out]; rfl, have hb9 := HB1.out; blq⟩
set_option maxRecDepth 100000 in
set_option maxHeartbeats 1000000 in
theorem c_rParts (a : ByteArray) (ha : a.size ≤ 140737488351232) :
    Calls Tryd.prog 25 #[.string a] w fun e w' => e = .returned (.tuple #[.string (rParts a).1, .string (rParts a).2.1, .int .i64 (rParts a).2.2]) ∧ Below w.heap.size w w' := by
  have HA := Lib.hid ha
  clear ha
  go_enter Tryd.func25, Tryd.ntmps25
  go_wp2_with fail
  refine (c_FP (P := fun _ => True) a HA.out (fun _ _ => trivial)).mono ?_
  rintro e w1 ⟨x, rfl, hx, hb1⟩
  cases hq : numB a with
  | none =>
    have HE := Lib.hid (show rParts a = (nob, nob, 1) by rw [rParts, hq])
    clear hx hq
    simp only [Option.isSome_none]
    go_wp2_with fail
    go_ret3
    exact ⟨by rw [HE.out]; rfl, blq⟩
  | some q =>
    have HE := Lib.hid (show rParts a = (bsOf (strW q.num), bsOf (dec q.den), 0) by rw [rParts, hq])
    have HX := Lib.hid (hx q hq)
    have HFR := Lib.hid ((Fr.nil (Nat.le_refl w1.heap.size)).new4 (.bool x.num.b) (.slice x.num.A x.num.n x.num.c) (.bool x.den.b) (.slice x.den.A x.den.n x.den.c) 52)
    clear hx hq
    simp only [Option.isSome_some]
    go_wp2_with fail
    go_region_held3 (fun W => W.cell? ⟨w1.heap.size, 0, none⟩ = some (.bool x.num.b) ∧ W.cell? ⟨w1.heap.size, 1, none⟩ = some (.slice x.num.A x.num.n x.num.c) ∧ W.cell? ⟨w1.heap.size, 2, none⟩ = some (.bool x.den.b) ∧ W.cell? ⟨w1.heap.size, 3, none⟩ = some (.slice x.den.A x.den.n x.den.c))
      (exact ⟨(HFR.out.go blq).get 0 rfl, (HFR.out.go blq).get 1 rfl, (HFR.out.go blq).get 2 rfl, (HFR.out.go blq).get 3 rfl⟩)
      (first
        | (go_at_call 35; go_must (with_reducible refine (c_FNum x).mono ?_); rintro e w2 ⟨rfl, hb2⟩)
        | (go_at_call 31; go_must (with_reducible refine (c_FDen x).mono ?_); rintro e w4 ⟨rfl, hb4⟩)
        | (go_at_call_of 48 (Value.agg #[.bool x.num.b, .slice x.num.A x.num.n x.num.c]); go_must (with_reducible refine (c_String (HX.out.hn.below blq) (by have := HX.out.hn.len; omega)).mono ?_); rintro e w3 ⟨rfl, hb3⟩)
        | (go_at_call_of 48 (Value.agg #[.bool x.den.b, .slice x.den.A x.den.n x.den.c]); go_must (with_reducible refine (c_String (HX.out.hd.below blq) (by have := HX.out.hd.len; omega)).mono ?_); rintro e w5 ⟨rfl, hb5⟩))
    go_wp2_with fail
    go_ret3
    exact ⟨by rw [HE.out, strW_nat]; rfl, blq⟩
set_option maxRecDepth 100000 in
set_option maxHeartbeats 1000000 in
theorem c_rMake (n d : Int) (hn1 : -9223372036854775808 ≤ n) (hn2 : n ≤ 9223372036854775807) (hd1 : -9223372036854775808 ≤ d) (hd2 : d ≤ 9223372036854775807) :
    Calls Tryd.prog 28 #[.int .i64 n, .int .i64 d] w fun e w' => e = .returned (.tuple #[.string (rMake n d).1, .int .i64 (rMake n d).2]) ∧ Below w.heap.size w w' := by
  by_cases hd : d = 0
  · subst hd
    go_enter Tryd.func28, Tryd.ntmps28
    go_wp2_with fail
    go_ret2
    exact ⟨rfl, blq⟩
  · have HE := Lib.hid (show rMake n d = tellB (Rat.divInt n d) by rw [rMake, if_neg hd])
    have HD := Lib.hid hd
    have hd0 : (d == 0) = false := by simpa using hd
    clear hd
    go_enter Tryd.func28, Tryd.ntmps28
    go_wp2_with fail
    refine (c_Of (P := fun _ => True) n hn1 hn2 (fun _ _ => trivial)).mono ?_
    rintro e w1 ⟨x, rfl, hx, hb1⟩
    have HX := Lib.hid hx
    clear hx
    go_wp2_with fail
    refine (c_Of (P := fun _ => True) d hd1 hd2 (fun _ _ => trivial)).mono ?_
    rintro e w2 ⟨y, rfl, hy, hb2⟩
    have HY := Lib.hid hy
    clear hy
    go_wp2_with fail
    refine (c_New (P := fun _ => True) (HX.out.below blq) HY.out HD.out (by omega) (fun _ _ => trivial)).mono ?_
    rintro e w3 ⟨r, rfl, hr, hb3⟩
    have HR := Lib.hid hr
    clear hr
    go_wp2_with fail
    refine (c_told HR.out (by omega)).mono ?_
    rintro e w4 ⟨rfl, hb4⟩
    go_wp2_with fail
    go_ret2
    exact ⟨by rw [HE.out]; rfl, blq⟩
end
end Go.Proofs.YtpdghgfbfmaplaaDoor.Wh
end
section
set_option linter.unusedVariables false
set_option linter.unusedSimpArgs false
namespace Go.Proofs.YtpdghgfbfmaplaaDoor.Wh
open Go.RowKit Go.Proofs.YtpdghgfbfmaplaaDoorW.PrintWords Go.Proofs.YtpdghgfbfmaplaaDoor.Num Go.Proofs.YtpdghgfbfmaplaaDoor.Dec
section
variable {w : World}
set_option maxRecDepth 100000 in
set_option maxHeartbeats 4000000 in
theorem c_rDiv_z (a b : ByteArray) (ha : a.size ≤ 140737488351232) (hb : b.size ≤ 140737488351232) (hb0 : b = ⟨#[48]⟩) (hi : (numB a).isSome = true) :
    Calls Tryd.prog 14 #[.string a, .string b] w fun e w' => e = .returned (.tuple #[.string (rDiv a b).1, .int .i64 (rDiv a b).2]) ∧ Below w.heap.size w w' := by
  have HA := Lib.hid ha
  have HB := Lib.hid hb
  clear ha hb
  have HI := Lib.hid (show rIs a = true from hi)
  have HE := Lib.hid (show rDiv a b = (nob, 12) from if_pos ⟨hb0, hi⟩)
  subst hb0
  clear hi
  have HF0 := Lib.hid (show Fr [] (w.heap.size) w from (Fr.nil (by simp)))
  go_enter Tryd.func14, Tryd.ntmps14
  go_wp2_with fail
  refine (c_rIs' a HA.out HI.out).mono ?_
  rintro e w1 ⟨rfl, hb1⟩
  have HF1 := Lib.hid (show Fr [] (w.heap.size) w1 from HF0.out.go blq)
  have hz1 : w.heap.size ≤ w1.heap.size := HF1.out.1
  go_wp2_with fail
  go_ret2
  exact ⟨by rw [HE.out]; rfl, blq⟩
set_option maxRecDepth 100000 in
set_option maxHeartbeats 4000000 in
theorem c_rDiv_i (a b : ByteArray) (ha : a.size ≤ 140737488351232) (hb : b.size ≤ 140737488351232) (hb0 : b = ⟨#[48]⟩) (hi : (numB a).isSome = false) :
    Calls Tryd.prog 14 #[.string a, .string b] w fun e w' => e = .returned (.tuple #[.string (rDiv a b).1, .int .i64 (rDiv a b).2]) ∧ Below w.heap.size w w' := by
  have HA := Lib.hid ha
  have HB := Lib.hid hb
  clear ha hb
  have HI := Lib.hid (show rIs a = false from hi)
  have HE := Lib.hid (show rDiv a b = rBin (· / ·) a b from if_neg (fun h => by rw [hi] at h; cases h.2))
  have HNZ := Lib.hid (show ∀ q p : Rat, numB a = some q → numB b = some p → p ≠ 0 from fun q p h _ => by rw [h] at hi; cases hi)
  subst hb0
  clear hi
  have HF0 := Lib.hid (show Fr [] (w.heap.size) w from (Fr.nil (by simp)))
  go_enter Tryd.func14, Tryd.ntmps14
  go_wp2_with fail
  refine (c_rIs' a HA.out HI.out).mono ?_
  rintro e w1 ⟨rfl, hb1⟩
  have HF1 := Lib.hid (show Fr [] (w.heap.size) w1 from HF0.out.go blq)
  have hz1 : w.heap.size ≤ w1.heap.size := HF1.out.1
  go_wp2_with fail
  refine (c_two (F := 39) (f := (· / ·)) (K := 34 + 34 + 1) a ⟨#[48]⟩ HA.out HB.out (by omega) (fun args W => by simp [go_sem]) (fun x y q p W h1 h2 hx hy => c_FDiv (K := 34) (P := fun _ => True) hx hy (HNZ.out q p h1 h2) (by omega) (fun _ _ => trivial))).mono ?_
  rintro e w2 ⟨rfl, hb2⟩
  have HF2 := Lib.hid (show Fr [] (w.heap.size) w2 from HF1.out.go blq)
  have hz2 : w.heap.size ≤ w2.heap.size := HF2.out.1
  go_wp2_with fail
  go_ret2
  exact ⟨by rw [HE.out]; rfl, blq⟩
set_option maxRecDepth 100000 in
set_option maxHeartbeats 4000000 in
theorem c_rDiv_n (a b : ByteArray) (ha : a.size ≤ 140737488351232) (hb : b.size ≤ 140737488351232) (hb0 : ¬ b = ⟨#[48]⟩) :
    Calls Tryd.prog 14 #[.string a, .string b] w fun e w' => e = .returned (.tuple #[.string (rDiv a b).1, .int .i64 (rDiv a b).2]) ∧ Below w.heap.size w w' := by
  have HA := Lib.hid ha
  have HB := Lib.hid hb
  clear ha hb
  have HE := Lib.hid (show rDiv a b = rBin (· / ·) a b from if_neg (fun h => hb0 h.1))
  have HNZ := Lib.hid (show ∀ q p : Rat, numB a = some q → numB b = some p → p ≠ 0 from fun q p _ h h0 => hb0 (by subst h0; rw [(numB_some.1 h).1, strF_zero]))
  have hbq : (b.toList == [48]) = false := by rw [ByteArray.toList_eq]; simpa using fun h => hb0 (bs_of h)
  clear hb0
  have HF0 := Lib.hid (show Fr [] (w.heap.size) w from (Fr.nil (by simp)))
  go_enter Tryd.func14, Tryd.ntmps14
  go_wp2_with fail
  refine (c_two (F := 39) (f := (· / ·)) (K := 34 + 34 + 1) a b HA.out HB.out (by omega) (fun args W => by simp [go_sem]) (fun x y q p W h1 h2 hx hy => c_FDiv (K := 34) (P := fun _ => True) hx hy (HNZ.out q p h1 h2) (by omega) (fun _ _ => trivial))).mono ?_
  rintro e w1 ⟨rfl, hb1⟩
  have HF1 := Lib.hid (show Fr [] (w.heap.size) w1 from HF0.out.go blq)
  have hz1 : w.heap.size ≤ w1.heap.size := HF1.out.1
  go_wp2_with fail
  go_ret2
  exact ⟨by rw [HE.out]; rfl, blq⟩
set_option maxRecDepth 100000 in
set_option maxHeartbeats 4000000 in
theorem c_rDiv (a b : ByteArray) (ha : a.size ≤ 140737488351232) (hb : b.size ≤ 140737488351232) :
    Calls Tryd.prog 14 #[.string a, .string b] w fun e w' => e = .returned (.tuple #[.string (rDiv a b).1, .int .i64 (rDiv a b).2]) ∧ Below w.heap.size w w' := by
  by_cases hb0 : b = ⟨#[48]⟩
  · cases hi : (numB a).isSome with
    | true => exact c_rDiv_z a b ha hb hb0 hi
    | false => exact c_rDiv_i a b ha hb hb0 hi
  · exact c_rDiv_n a b ha hb hb0
end
end Go.Proofs.YtpdghgfbfmaplaaDoor.Wh
end
section
set_option linter.unusedVariables false
set_option linter.unusedSimpArgs false
namespace Go.Proofs.YtpdghgfbfmaplaaDoor.Wh
open Go.RowKit Go.Proofs.YtpdghgfbfmaplaaDoor.Num Go.Proofs.YtpdghgfbfmaplaaDoor.Dec
theorem numB_nob : numB nob = none := by
  cases h : numB nob with
  | none => rfl
  | some q =>
    have h1 := (numB_some.1 h).1
    have h2 : ([] : List UInt8) = strF q := bsOf_inj h1
    unfold strF at h2
    split at h2
    · exact absurd h2.symm (strW_ne _)
    · simp at h2
theorem bin_size (f : Rat → Rat → Rat) (a b : ByteArray) : (rBin f a b).1.size ≤ 602 := by
  unfold rBin
  split
  · exact tell_size _
  · decide
theorem un_size (f : Rat → Rat) (a : ByteArray) : (rUn f a).1.size ≤ 602 := by
  unfold rUn
  split
  · exact tell_size _
  · decide
theorem div_size (a b : ByteArray) : (rDiv a b).1.size ≤ 602 := by
  unfold rDiv
  split
  · decide
  · exact bin_size _ _ _
theorem un_yes {f : Rat → Rat} {a : ByteArray} {q : Rat} (ha : numB a = some q) : rUn f a = tellB (f q) := by rw [rUn, ha]
section
variable {w : World}
theorem c_namedI {F : Nat} {args : Array Value} {r : Int × Int} {s n : Int} (h : r = (s, n)) (hc : Calls Tryd.prog F args w fun e w' => e = .returned (.tuple #[.int .i64 r.1, .int .i64 r.2]) ∧ Below w.heap.size w w') :
    Calls Tryd.prog F args w fun e w' => e = .returned (.tuple #[.int .i64 s, .int .i64 n]) ∧ Below w.heap.size w w' := by
  subst h; exact hc
theorem cmp_yes {a b : ByteArray} {q p : Rat} (ha : numB a = some q) (hb : numB b = some p) : rCmp a b = ((q - p).num.sign, 0) := by rw [rCmp, ha, hb]
end
end Go.Proofs.YtpdghgfbfmaplaaDoor.Wh
end
