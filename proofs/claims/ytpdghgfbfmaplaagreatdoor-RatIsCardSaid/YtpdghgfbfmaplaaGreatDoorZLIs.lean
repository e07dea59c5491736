/- Lemmas and contracts for the statement RowRatIs: merged by wip/assemble.py. -/
import Derived.Test.YtpdghgfbfmaplaaGreatDoorQY
import Derived.Test.YtpdghgfbfmaplaaGreatDoorZRefJ
import Derived.Test.YtpdghgfbfmaplaaGreatDoorZRatD
import Derived.Test.YtpdghgfbfmaplaaGreatDoorZRatV
set_option maxRecDepth 100000
set_option maxHeartbeats 8000000
section
set_option linter.unusedVariables false
set_option linter.unusedSimpArgs false
namespace Go.Proofs.YtpdghgfbfmaplaaGreatDoor.Rf
open Go.RowKit Go.Proofs.YtpdghgfbfmaplaaGreatDoorW.PrintWords Go.Proofs.YtpdghgfbfmaplaaGreatDoor.Num Go.Proofs.YtpdghgfbfmaplaaGreatDoor.Dec Go.Proofs.YtpdghgfbfmaplaaGreatDoor.Wh
theorem c_RatIs {w : World} (s : ByteArray) (hs : s.size ≤ 140737488351232) : Calls Tryz.prog 5 #[.string s] w fun e w' => e = .returned (.bool true) ∧ Below w.heap.size w w' := by
 have H1 := Lib.hid (fun (W : World) => c_rParts (w := W) s hs)
 have H2 := Lib.hid (fun (W : World) => q_Parts (w := W) s hs)
 have H3 := Lib.hid (fun (W : World) => c_rIs (w := W) s hs)
 have H4 := Lib.hid (fun (W : World) => q_Is (w := W) s hs)
 clear hs
 obtain ⟨a, b, k, hr⟩ : ∃ a b k, rParts s = (a, b, k) := ⟨_, _, _, rfl⟩
 obtain ⟨d, hd⟩ : ∃ d, rIs s = d := ⟨_, rfl⟩
 rw [hr] at H1 H2
 rw [hd] at H3 H4
 clear hr hd
 go_enter Tryz.func5, Tryz.ntmps5
 go_wp2_with fail
 refine (H1.out _).mono ?_
 rintro e w1 ⟨rfl, hb1⟩
 go_wp2_with fail
 refine (H2.out _).mono ?_
 rintro e w2 ⟨rfl, hb2⟩
 go_wp2_with fail
 refine (H3.out _).mono ?_
 rintro e w3 ⟨rfl, hb3⟩
 go_wp2_with fail
 refine (H4.out _).mono ?_
 rintro e w4 ⟨rfl, hb4⟩
 go_wp2_with fail
 refine (c_alive).mono ?_
 rintro e w5 ⟨rfl, hb5⟩
 go_wp2_with fail
 go_ret
 exact ⟨rfl, blq⟩
end Go.Proofs.YtpdghgfbfmaplaaGreatDoor.Rf
end
