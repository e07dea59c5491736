/- Lemmas and contracts for the statement RowRatMakes: merged by wip/assemble.py. -/
import Derived.Test.YtpdghgfbfmaplaaGreatDoorQY
import Derived.Test.YtpdghgfbfmaplaaGreatDoorZRefF
import Derived.Test.YtpdghgfbfmaplaaGreatDoorZRatD
import Derived.Test.YtpdghgfbfmaplaaGreatDoorZRatV
section
set_option linter.unusedVariables false
set_option linter.unusedSimpArgs false
namespace Go.Proofs.YtpdghgfbfmaplaaGreatDoor.Rf
open Go.RowKit Go.Proofs.YtpdghgfbfmaplaaGreatDoorW.PrintWords Go.Proofs.YtpdghgfbfmaplaaGreatDoor.Num Go.Proofs.YtpdghgfbfmaplaaGreatDoor.PRef Go.Proofs.YtpdghgfbfmaplaaGreatDoor.WhC Go.Proofs.YtpdghgfbfmaplaaGreatDoor.Dec Go.Proofs.YtpdghgfbfmaplaaGreatDoor.Wh
section
variable {w : World}
set_option maxRecDepth 100000 in
set_option maxHeartbeats 4000000 in
theorem q_Make_1 (n d : Int) (hn : -9223372036854775808 ≤ n ∧ n ≤ 9223372036854775807) (hd : -9223372036854775808 ≤ d ∧ d ≤ 9223372036854775807) (h0 : ¬ d = 0) :
 Calls Tryz.prog 15 #[.int .i64 n, .int .i64 d] w fun e w' => e = .returned (.tuple #[.string (rMake n d).1, .int .i64 (rMake n d).2]) ∧ Below w.heap.size w w' := by
 have HE := Lib.hid (show rMake n d = tellB ((n : Rat) / (d : Rat)) by rw [rMake, if_neg h0, Rat.divInt_eq_div])
 have HZ := Lib.hid (show (d : Rat) ≠ 0 by simpa using h0)
 have hd0 : (d == 0) = false := by simpa using h0
 have HN := Lib.hid hn
 have HD := Lib.hid hd
 clear hn hd h0
 go_enter Tryz.func15, Tryz.ntmps15
 go_wp2_with fail
 refine (q_Of (P := fun _ => True) n HN.out.1 HN.out.2 (fun _ _ => trivial)).mono ?_
 rintro e w1 ⟨x, rfl, hx, hb1⟩
 have HX := Lib.hid hx
 clear hx
 go_wp2_with fail
 refine (q_Of (P := fun _ => True) d HD.out.1 HD.out.2 (fun _ _ => trivial)).mono ?_
 rintro e w2 ⟨y, rfl, hy, hb2⟩
 have HY := Lib.hid hy
 clear hy
 go_wp2_with fail
 refine (q_Over (P := fun _ => True) (K := 5) (HX.out.below blq) (HY.out.below blq) (by decide) (fun _ _ => trivial) HZ.out).mono ?_
 rintro e w3 ⟨r, rfl, hr, hb3⟩
 have HR := Lib.hid hr
 clear hr
 go_wp2_with fail
 refine (q_Out (K := 10) (HR.out.below blq) (by decide)).mono ?_
 rintro e w4 ⟨rfl, hb4⟩
 go_wp2_with fail
 go_ret2
 exact ⟨by rw [HE.out]; rfl, blq⟩
set_option maxRecDepth 100000 in
set_option maxHeartbeats 4000000 in
theorem q_Make_0 (n d : Int) (hn : -9223372036854775808 ≤ n ∧ n ≤ 9223372036854775807) (hd : -9223372036854775808 ≤ d ∧ d ≤ 9223372036854775807) (h0 : d = 0) :
 Calls Tryz.prog 15 #[.int .i64 n, .int .i64 d] w fun e w' => e = .returned (.tuple #[.string (rMake n d).1, .int .i64 (rMake n d).2]) ∧ Below w.heap.size w w' := by
 have HE := Lib.hid (show rMake n d = (nob, 12) from if_pos h0)
 clear hn hd
 subst h0
 go_enter Tryz.func15, Tryz.ntmps15
 go_wp2_with fail
 go_ret2
 exact ⟨by rw [HE.out]; rfl, Below.refl _ _⟩
theorem q_Make (n d : Int) (hn : -9223372036854775808 ≤ n ∧ n ≤ 9223372036854775807) (hd : -9223372036854775808 ≤ d ∧ d ≤ 9223372036854775807)  :
 Calls Tryz.prog 15 #[.int .i64 n, .int .i64 d] w fun e w' => e = .returned (.tuple #[.string (rMake n d).1, .int .i64 (rMake n d).2]) ∧ Below w.heap.size w w' := by
 by_cases h : d = 0
 · exact q_Make_0 n d hn hd h
 · exact q_Make_1 n d hn hd h
end
end Go.Proofs.YtpdghgfbfmaplaaGreatDoor.Rf
end
section
set_option linter.unusedVariables false
set_option linter.unusedSimpArgs false
namespace Go.Proofs.YtpdghgfbfmaplaaGreatDoor.Rf
open Go.RowKit Go.Proofs.YtpdghgfbfmaplaaGreatDoorW.PrintWords Go.Proofs.YtpdghgfbfmaplaaGreatDoor.Num Go.Proofs.YtpdghgfbfmaplaaGreatDoor.Dec Go.Proofs.YtpdghgfbfmaplaaGreatDoor.Wh
set_option maxRecDepth 100000 in
set_option maxHeartbeats 4000000 in
theorem c_RatMakes {w : World} (n d : Int) (hn1 : -9223372036854775808 ≤ n) (hn2 : n ≤ 9223372036854775807) (hd1 : -9223372036854775808 ≤ d) (hd2 : d ≤ 9223372036854775807) : Calls Tryz.prog 4 #[.int .i64 n, .int .i64 d] w fun e w' => e = .returned (.bool true) ∧ Below w.heap.size w w' := by
 have H1 := Lib.hid (fun (W : World) => c_rMake (w := W) n d hn1 hn2 hd1 hd2)
 have H2 := Lib.hid (fun (W : World) => q_Make (w := W) n d ⟨hn1, hn2⟩ ⟨hd1, hd2⟩)
 clear hn1 hn2 hd1 hd2
 obtain ⟨s, k, hr⟩ : ∃ s k, rMake n d = (s, k) := ⟨_, _, rfl⟩
 rw [hr] at H1 H2
 clear hr
 go_enter Tryz.func4, Tryz.ntmps4
 go_wp2_with fail
 refine (H1.out _).mono ?_
 rintro e w1 ⟨rfl, hb1⟩
 go_wp2_with fail
 refine (H2.out _).mono ?_
 rintro e w2 ⟨rfl, hb2⟩
 go_wp2_with fail
 refine (c_alive).mono ?_
 rintro e w3 ⟨rfl, hb3⟩
 go_wp2_with fail
 go_ret
 exact ⟨rfl, blq⟩
end Go.Proofs.YtpdghgfbfmaplaaGreatDoor.Rf
end
