/- Lemmas for RatLists. -/
import Derived.Test.YtpdghgfbfmaplaaGreatDoorZRatD
import Derived.Test.YtpdghgfbfmaplaaGreatDoorZOrdL
import Derived.IntWalk
set_option maxRecDepth 100000
set_option maxHeartbeats 8000000
section
set_option linter.unusedVariables false
set_option linter.unusedSimpArgs false
namespace Go.Proofs.YtpdghgfbfmaplaaGreatDoor.Wh
open Go.RowKit Go.Proofs.YtpdghgfbfmaplaaGreatDoorW.PrintWords Go.Proofs.YtpdghgfbfmaplaaGreatDoor.Num Go.Proofs.YtpdghgfbfmaplaaGreatDoor.Dec
section
variable {P P':Nat→Prop} {K K':Nat} {w W:World}
theorem IsF.ex{x:FV}{q:Rat}{g:Nat}(h:IsF P K w x q)(hg:w.heap.size≤g):IsF (Ex P g) K w x q:=⟨h.1.ex hg,h.2.ex hg⟩
end
end Go.Proofs.YtpdghgfbfmaplaaGreatDoor.Wh
end
