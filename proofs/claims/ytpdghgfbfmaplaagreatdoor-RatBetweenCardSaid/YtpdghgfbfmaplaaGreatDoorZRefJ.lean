/- Lemmas for RatOne and RatBetween. -/
import Derived.Test.YtpdghgfbfmaplaaGreatDoorZRefI
import Derived.Test.YtpdghgfbfmaplaaGreatDoorZRatD
set_option maxRecDepth 100000
set_option maxHeartbeats 8000000
section
set_option linter.unusedVariables false
set_option linter.unusedSimpArgs false
namespace Go.Proofs.YtpdghgfbfmaplaaGreatDoor.Rf
open Go.RowKit Go.Proofs.YtpdghgfbfmaplaaGreatDoorW.PrintWords Go.Proofs.YtpdghgfbfmaplaaGreatDoor.Num Go.Proofs.YtpdghgfbfmaplaaGreatDoor.PRef Go.Proofs.YtpdghgfbfmaplaaGreatDoor.WhC Go.Proofs.YtpdghgfbfmaplaaGreatDoor.Dec Go.Proofs.YtpdghgfbfmaplaaGreatDoor.Wh
theorem _root_.Go.Proofs.YtpdghgfbfmaplaaGreatDoor.Wh.Fr.new3{L:List (Nat×Nat×Value)}{s:Nat}{W:World}(h:Fr L s W)(v0 v1 v2:Value)(t:TypeId):Fr ((W.heap.size,0,v0) :: (W.heap.size,1,v1) :: (W.heap.size,2,v2) :: L) (W.heap.size+1) (W.alloc (.cells #[v0,v1,v2] t)):=by
 have h1:Fr L s (W.alloc (.cells #[v0,v1,v2] t)):=h.go ((Below.refl _ _).alloc (Nat.le_refl _) _)
 have hs:W.heap.size+1≤(W.alloc (.cells #[v0,v1,v2] t)).heap.size:=by simp
 exact(((h1.up (Nat.le_succ_of_le h.1) hs).cons (by omega) (by simp) (by simp)).cons (by omega) (by simp) (by simp)).cons (by omega) (by simp) (by simp)
section
variable {P:Nat→Prop} {w:World} {q:Rat}
theorem q_Read_yes{s:ByteArray}(hq:numB s=some q)(hz:s.size≤140737488351232)(hP:∀k,w.heap.size≤k→P k) :
 Calls Tryz.prog 51 #[.string s] w fun e w'=>∃r:QV,e=.returned (.tuple #[.agg #[.bool r.b,.slice r.nA r.nn r.nc,.slice r.dA r.dn r.dc],.bool true])∧IsQ P 75 w' r q∧Below w.heap.size w w':=by
 refine(q_Read s hz hP).mono ?_
 rintro e w' ⟨⟨q',r,h1,h2,h3⟩|⟨h1,h2⟩,hb⟩
 · rw [hq]at h1;cases h1;exact⟨r,h2,h3,hb⟩
 · rw [hq]at h1;cases h1
theorem q_Read_no{s:ByteArray}(hq:numB s=none)(hz:s.size≤140737488351232) :
 Calls Tryz.prog 51 #[.string s] w fun e w'=>e=.returned (.tuple #[.agg #[.bool false,.slice none 0 0,.slice none 0 0],.bool false])∧Below w.heap.size w w':=by
 refine(q_Read (P:=fun _=>True) s hz (fun _ _=>trivial)).mono ?_
 rintro e w' ⟨⟨q',r,h1,h2,h3⟩|⟨h1,h2⟩,hb⟩
 · rw [hq]at h1;cases h1
 · exact⟨h2,hb⟩
end
section
variable {w:World} {s:ByteArray} {q:Rat}
end
end Go.Proofs.YtpdghgfbfmaplaaGreatDoor.Rf
end
