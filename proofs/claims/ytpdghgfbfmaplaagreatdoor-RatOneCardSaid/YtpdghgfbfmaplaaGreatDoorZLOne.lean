/- Lemmas for RatOne and RatBetween. -/
import Derived.Test.YtpdghgfbfmaplaaGreatDoorZRefV
import Derived.Test.YtpdghgfbfmaplaaGreatDoorZRatV
set_option maxRecDepth 100000
set_option maxHeartbeats 8000000
section
set_option linter.unusedVariables false
set_option linter.unusedSimpArgs false
namespace Go.Proofs.YtpdghgfbfmaplaaGreatDoor.Rf
open Go.RowKit Go.Proofs.YtpdghgfbfmaplaaGreatDoorW.PrintWords Go.Proofs.YtpdghgfbfmaplaaGreatDoor.Num Go.Proofs.YtpdghgfbfmaplaaGreatDoor.Dec Go.Proofs.YtpdghgfbfmaplaaGreatDoor.Wh
theorem c_RatOne{w:World}(a:ByteArray)(n:Int)(ha:a.size≤140737488351232):Calls Tryz.prog 8 #[.string a,.int .i64 n] w fun e w'=>e=.returned (.bool true)∧Below w.heap.size w w':=by
 have H0:=Lib.hid (fun(W:World)=>c_rFloor (w:=W) a ha)
 have G0:=Lib.hid (fun(W:World)=>q_rFloor (w:=W) a ha)
 have H1:=Lib.hid (fun(W:World)=>c_rRound (w:=W) a ha)
 have G1:=Lib.hid (fun(W:World)=>q_rRound (w:=W) a ha)
 have H2:=Lib.hid (fun(W:World)=>c_rPow (w:=W) a n ha)
 have G2:=Lib.hid (fun(W:World)=>q_rPow (w:=W) a n ha)
 have H3:=Lib.hid (fun(W:World)=>c_rSign (w:=W) a ha)
 have G3:=Lib.hid (fun(W:World)=>q_rSign (w:=W) a ha)
 clear ha
 obtain⟨s0,k0,hr⟩:∃s k,rFloor a=(s,k):=⟨_,_,rfl⟩
 rw [hr]at H0 G0
 clear hr
 obtain⟨s1,k1,hr⟩:∃s k,rRound a=(s,k):=⟨_,_,rfl⟩
 rw [hr]at H1 G1
 clear hr
 obtain⟨s2,k2,hr⟩:∃s k,rPow a n=(s,k):=⟨_,_,rfl⟩
 rw [hr]at H2 G2
 clear hr
 obtain⟨s3,k3,hr⟩:∃s k,rSign a=(s,k):=⟨_,_,rfl⟩
 rw [hr]at H3 G3
 clear hr
 go_enter Tryz.func8,Tryz.ntmps8
 go_wp2_with fail
 refine(H0.out _).mono ?_
 rintro e w1 ⟨rfl,hb1⟩
 go_wp2_with fail
 refine(G0.out _).mono ?_
 rintro e w2 ⟨rfl,hb2⟩
 go_wp2_with fail
 refine(H1.out _).mono ?_
 rintro e w3 ⟨rfl,hb3⟩
 go_wp2_with fail
 refine(G1.out _).mono ?_
 rintro e w4 ⟨rfl,hb4⟩
 go_wp2_with fail
 refine(H2.out _).mono ?_
 rintro e w5 ⟨rfl,hb5⟩
 go_wp2_with fail
 refine(G2.out _).mono ?_
 rintro e w6 ⟨rfl,hb6⟩
 go_wp2_with fail
 refine(H3.out _).mono ?_
 rintro e w7 ⟨rfl,hb7⟩
 go_wp2_with fail
 refine(G3.out _).mono ?_
 rintro e w8 ⟨rfl,hb8⟩
 go_wp2_with fail
 refine(c_alive).mono ?_
 rintro e w9 ⟨rfl,hb9⟩
 go_wp2_with fail
 go_ret
 exact⟨rfl,blq⟩
end Go.Proofs.YtpdghgfbfmaplaaGreatDoor.Rf
end
