/- Lemmas for RatOne and RatBetween. -/
import Derived.Test.YtpdghgfbfmaplaaGreatDoorZRefX
import Derived.Test.YtpdghgfbfmaplaaGreatDoorZRatV
set_option maxRecDepth 100000
set_option maxHeartbeats 8000000
section
set_option linter.unusedVariables false
set_option linter.unusedSimpArgs false
namespace Go.Proofs.YtpdghgfbfmaplaaGreatDoor.Rf
open Go.RowKit Go.Proofs.YtpdghgfbfmaplaaGreatDoorW.PrintWords Go.Proofs.YtpdghgfbfmaplaaGreatDoor.Num Go.Proofs.YtpdghgfbfmaplaaGreatDoor.Dec Go.Proofs.YtpdghgfbfmaplaaGreatDoor.Wh
theorem c_RatBetween{w:World}(a b:ByteArray)(ha:a.size≤140737488351232)(hb:b.size≤140737488351232):Calls Tryz.prog 3 #[.string a,.string b] w fun e w'=>e=.returned (.bool true)∧Below w.heap.size w w':=by
 have H0:=Lib.hid (fun(W:World)=>c_rSimplest (w:=W) a b ha hb)
 have G0:=Lib.hid (fun(W:World)=>q_rSimplest (w:=W) a b ha hb)
 have H1:=Lib.hid (fun(W:World)=>c_rMultiple (w:=W) a b ha hb)
 have G1:=Lib.hid (fun(W:World)=>q_rMultiple (w:=W) a b ha hb)
 clear ha hb
 obtain⟨s0,k0,hr⟩:∃s k,rSimplest a b=(s,k):=⟨_,_,rfl⟩
 rw [hr]at H0 G0
 clear hr
 obtain⟨s1,k1,hr⟩:∃s k,rMultiple a b=(s,k):=⟨_,_,rfl⟩
 rw [hr]at H1 G1
 clear hr
 go_enter Tryz.func3,Tryz.ntmps3
 go_wp2_with fail
 refine(H0.out _).mono ?_
 rintro e w1 ⟨rfl,hb1⟩
 go_wp2_with fail
 refine(G0.out _).mono ?_
 rintro e w2 ⟨rfl,hb2⟩
 go_wp2_with fail
 refine(H1.out _).mono ?_
 rintro e w3 ⟨rfl,hb3⟩
 go_wp2_with fail
 refine(G1.out _).mono ?_
 rintro e w4 ⟨rfl,hb4⟩
 go_wp2_with fail
 refine(c_alive).mono ?_
 rintro e w5 ⟨rfl,hb5⟩
 go_wp2_with fail
 go_ret
 exact⟨rfl,blq⟩
end Go.Proofs.YtpdghgfbfmaplaaGreatDoor.Rf
end
