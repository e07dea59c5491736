/- Lemmas for RatLists. -/
import Derived.Test.YtpdghgfbfmaplaaGreatDoorZRatC
set_option maxRecDepth 100000
set_option maxHeartbeats 8000000
section
set_option linter.unusedVariables false
set_option linter.unusedSimpArgs false
namespace Go.Proofs.YtpdghgfbfmaplaaGreatDoor.Wh
open Go.RowKit Go.Proofs.YtpdghgfbfmaplaaGreatDoorW.PrintWords Go.Proofs.YtpdghgfbfmaplaaGreatDoor.Num Go.Proofs.YtpdghgfbfmaplaaGreatDoor.Dec
section
variable {w:World}
theorem c_FP{P:Nat→Prop}(a:ByteArray)(ha:a.size≤140737488351232)(hP:∀k,w.heap.size≤k→P k) :
 Calls Tryz.prog 62 #[.string a] w fun e w'=>∃x:FV,e=.returned (.tuple #[.agg #[.bool x.num.b,.slice x.num.A x.num.n x.num.c,.bool x.den.b,.slice x.den.A x.den.n x.den.c],.bool (numB a).isSome])∧(∀q,numB a=some q→IsF P 34 w' x q)∧Below w.heap.size w w':=by
 rw [sg_of a]
 refine(c_FParse a.data.toList (by rw [data_length];exact ha) hP).mono ?_
 rintro e w' ⟨⟨q,x,e1,e2,rfl,hx⟩|⟨hno,x,rfl⟩,hb⟩
 · have h1:numB a=some q:=numB_some.2 ⟨bs_of e1,e2⟩;exact⟨x,by rw [h1];rfl,fun p hp=>by rw [h1]at hp;cases hp;exact hx,hb⟩
 · have h1:numB a=none:=numOf_none.2 hno;exact⟨x,by rw [h1];rfl,(fun p hp=>by rw [h1]at hp;cases hp),hb⟩
noncomputable def rIs (a:ByteArray):Bool:=(numB a).isSome
theorem c_rIs(a:ByteArray)(ha:a.size≤140737488351232) :
 Calls Tryz.prog 18 #[.string a] w fun e w'=>e=.returned (.bool (rIs a))∧Below w.heap.size w w':=by
 have HA:=Lib.hid ha
 clear ha
 go_enter Tryz.func18,Tryz.ntmps18
 go_wp2_with fail
 refine(c_FP (P:=fun _=>True) a HA.out (fun _ _=>trivial)).mono ?_
 rintro e w1 ⟨x,rfl,hx,hb1⟩
 have HX:=Lib.hid hx
 clear hx
 go_wp2_with fail
 go_ret
 exact⟨rfl,blq⟩
end
end Go.Proofs.YtpdghgfbfmaplaaGreatDoor.Wh
end
