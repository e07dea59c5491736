/- Lemmas and contracts for the statement RowRatMakes: merged by wip/assemble.py. -/
import Derived.Test.YtpdghgfbfmaplaaGreatDoorQY
import Derived.Test.YtpdghgfbfmaplaaGreatDoorZRatC
section
set_option linter.unusedVariables false
set_option linter.unusedSimpArgs false
namespace Go.Proofs.YtpdghgfbfmaplaaGreatDoor.Wh
open Go.RowKit Go.Proofs.YtpdghgfbfmaplaaGreatDoorW.PrintWords Go.Proofs.YtpdghgfbfmaplaaGreatDoor.Num Go.Proofs.YtpdghgfbfmaplaaGreatDoor.Dec
section
variable {w : World}
theorem c_FP {P : Nat → Prop} (a : ByteArray) (ha : a.size ≤ 140737488351232) (hP : ∀ k, w.heap.size ≤ k → P k) :
 Calls Tryz.prog 62 #[.string a] w fun e w' => ∃ x : FV, e = .returned (.tuple #[.agg #[.bool x.num.b, .slice x.num.A x.num.n x.num.c, .bool x.den.b, .slice x.den.A x.den.n x.den.c], .bool (numB a).isSome]) ∧ (∀ q, numB a = some q → IsF P 34 w' x q) ∧ Below w.heap.size w w' := by
 rw [sg_of a]
 refine (c_FParse a.data.toList (by rw [data_length]; exact ha) hP).mono ?_
 rintro e w' ⟨⟨q, x, e1, e2, rfl, hx⟩ | ⟨hno, x, rfl⟩, hb⟩
 · have h1 : numB a = some q := numB_some.2 ⟨bs_of e1, e2⟩
   exact ⟨x, by rw [h1]; rfl, fun p hp => by rw [h1] at hp; cases hp; exact hx, hb⟩
 · have h1 : numB a = none := numOf_none.2 hno
   exact ⟨x, by rw [h1]; rfl, (fun p hp => by rw [h1] at hp; cases hp), hb⟩
noncomputable def rIs (a : ByteArray) : Bool := (numB a).isSome
set_option maxRecDepth 100000 in
set_option maxHeartbeats 1000000 in
theorem c_rIs (a : ByteArray) (ha : a.size ≤ 140737488351232) :
 Calls Tryz.prog 18 #[.string a] w fun e w' => e = .returned (.bool (rIs a)) ∧ Below w.heap.size w w' := by
 have HA := Lib.hid ha
 clear ha
 go_enter Tryz.func18, Tryz.ntmps18
 go_wp2_with fail
 refine (c_FP (P := fun _ => True) a HA.out (fun _ _ => trivial)).mono ?_
 rintro e w1 ⟨x, rfl, hx, hb1⟩
 have HX := Lib.hid hx
 clear hx
 go_wp2_with fail
 go_ret
 exact ⟨rfl, blq⟩
set_option maxRecDepth 100000 in
set_option maxHeartbeats 1000000 in
theorem c_rMake (n d : Int) (hn1 : -9223372036854775808 ≤ n) (hn2 : n ≤ 9223372036854775807) (hd1 : -9223372036854775808 ≤ d) (hd2 : d ≤ 9223372036854775807) :
 Calls Tryz.prog 14 #[.int .i64 n, .int .i64 d] w fun e w' => e = .returned (.tuple #[.string (rMake n d).1, .int .i64 (rMake n d).2]) ∧ Below w.heap.size w w' := by
 by_cases hd : d = 0
 · subst hd
   go_enter Tryz.func14, Tryz.ntmps14
   go_wp2_with fail
   go_ret2
   exact ⟨rfl, blq⟩
 · have HE := Lib.hid (show rMake n d = tellB (Rat.divInt n d) by rw [rMake, if_neg hd])
   have HD := Lib.hid hd
   have hd0 : (d == 0) = false := by simpa using hd
   clear hd
   go_enter Tryz.func14, Tryz.ntmps14
   go_wp2_with fail
   refine (c_Of (P := fun _ => True) n hn1 hn2 (fun _ _ => trivial)).mono ?_
   rintro e w1 ⟨x, rfl, hx, hb1⟩
   have HX := Lib.hid hx
   clear hx
   go_wp2_with fail
   refine (c_Of (P := fun _ => True) d hd1 hd2 (fun _ _ => trivial)).mono ?_
   rintro e w2 ⟨y, rfl, hy, hb2⟩
   have HY := Lib.hid hy
   clear hy
   go_wp2_with fail
   refine (c_New (P := fun _ => True) (HX.out.below blq) HY.out HD.out (by omega) (fun _ _ => trivial)).mono ?_
   rintro e w3 ⟨r, rfl, hr, hb3⟩
   have HR := Lib.hid hr
   clear hr
   go_wp2_with fail
   refine (c_told HR.out (by omega)).mono ?_
   rintro e w4 ⟨rfl, hb4⟩
   go_wp2_with fail
   go_ret2
   exact ⟨by rw [HE.out]; rfl, blq⟩
end
end Go.Proofs.YtpdghgfbfmaplaaGreatDoor.Wh
end
