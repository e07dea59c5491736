/- Lemmas for RatLists. -/
import Derived.Test.YtpdghgfbfmaplaaGreatDoorZRefI
import Derived.Test.YtpdghgfbfmaplaaGreatDoorZRatD
set_option maxRecDepth 100000
set_option maxHeartbeats 8000000
section
set_option linter.unusedVariables false
set_option linter.unusedSimpArgs false
namespace Go.Proofs.YtpdghgfbfmaplaaGreatDoor.Rf
open Go.RowKit Go.Proofs.YtpdghgfbfmaplaaGreatDoorW.PrintWords Go.Proofs.YtpdghgfbfmaplaaGreatDoor.Num Go.Proofs.YtpdghgfbfmaplaaGreatDoor.PRef Go.Proofs.YtpdghgfbfmaplaaGreatDoor.WhC Go.Proofs.YtpdghgfbfmaplaaGreatDoor.Dec Go.Proofs.YtpdghgfbfmaplaaGreatDoor.Wh
theorem _root_.Go.Proofs.YtpdghgfbfmaplaaGreatDoor.Wh.Fr.new3{L:List (Nat×Nat×Value)}{s:Nat}{W:World}(h:Fr L s W)(v0 v1 v2:Value)(t:TypeId):Fr ((W.heap.size,0,v0) :: (W.heap.size,1,v1) :: (W.heap.size,2,v2) :: L) (W.heap.size+1) (W.alloc (.cells #[v0,v1,v2] t)):=by
 have h1:Fr L s (W.alloc (.cells #[v0,v1,v2] t)):=h.go ((Below.refl _ _).alloc (Nat.le_refl _) _)
 have hs:W.heap.size+1≤(W.alloc (.cells #[v0,v1,v2] t)).heap.size:=by simp
 exact(((h1.up (Nat.le_succ_of_le h.1) hs).cons (by omega) (by simp) (by simp)).cons (by omega) (by simp) (by simp)).cons (by omega) (by simp) (by simp)
section
variable {P:Nat→Prop} {w:World} {q:Rat}
end
section
variable {w:World} {s:ByteArray} {q:Rat}
end
end Go.Proofs.YtpdghgfbfmaplaaGreatDoor.Rf
end
