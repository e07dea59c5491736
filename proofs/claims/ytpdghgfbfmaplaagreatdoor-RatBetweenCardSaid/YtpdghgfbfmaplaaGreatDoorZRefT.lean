/- Lemmas for RatOne and RatBetween. -/
import Derived.Test.YtpdghgfbfmaplaaGreatDoorZRefJ
import Derived.Test.YtpdghgfbfmaplaaGreatDoorZRatE
set_option maxRecDepth 100000
set_option maxHeartbeats 8000000
section
set_option linter.unusedVariables false
set_option linter.unusedSimpArgs false
namespace Go.Proofs.YtpdghgfbfmaplaaGreatDoor.Rf
open Go.RowKit Go.Proofs.YtpdghgfbfmaplaaGreatDoorW.PrintWords Go.Proofs.YtpdghgfbfmaplaaGreatDoor.Num Go.Proofs.YtpdghgfbfmaplaaGreatDoor.PRef Go.Proofs.YtpdghgfbfmaplaaGreatDoor.WhC Go.Proofs.YtpdghgfbfmaplaaGreatDoor.Dec Go.Proofs.YtpdghgfbfmaplaaGreatDoor.Wh
section
variable {w:World}
theorem q_Read_any(s:ByteArray)(hz:s.size≤140737488351232) :
 Calls Tryz.prog 51 #[.string s] w fun e w'=>∃(r:QV) (b:Bool),e=.returned (.tuple #[.agg #[.bool r.b,.slice r.nA r.nn r.nc,.slice r.dA r.dn r.dc],.bool b])∧Below w.heap.size w w':=by
 cases h:numB s with
 | some q =>
  refine(q_Read_yes (P:=fun _=>True) h hz (fun _ _=>trivial)).mono ?_;rintro e w' ⟨r,rfl,hr,hb⟩;exact⟨r,true,rfl,hb⟩
 | none =>
  refine(q_Read_no h hz).mono ?_;rintro e w' ⟨rfl,hb⟩;exact⟨⟨false,none,0,0,none,0,0⟩,false,rfl,hb⟩
theorem numB_z:numB ⟨#[48]⟩=some 0:=numB_some.2 ⟨by rw [strF_zero],by decide +kernel⟩
end
end Go.Proofs.YtpdghgfbfmaplaaGreatDoor.Rf
end
