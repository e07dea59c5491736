/- Lemmas for RowBltOrder. -/
import Derived.Test.YtmfcefakpfbaoaaZBmL
section
set_option linter.unusedVariables false
set_option linter.unusedSimpArgs false
namespace Go.Proofs.Ytmfcefakpfbaoaa.PMatch
open Go.RowKit Go.Proofs.YtmfcefakpfbaoaaW.PrintWords Go.Proofs.YtmfcefakpfbaoaaW.PrintLast Go.Proofs.YtmfcefakpfbaoaaW.PrintMore
open Blt (ints blocksB needsB levelsB waitB)
section
variable {n : Nat} {nd : Nat → Nat → Bool}
theorem level_eq {k : Nat} {l : List Nat} (h : (needsB n nd)[k]? = some l) : (levelsB (needsB n nd)).getD k 0 = l.foldl (fun m j => max m ((levelsB (needsB n nd)).getD j 0 + 1)) 0 :=
  Blt.levels_at (needsB n nd).length (needsB n nd) rfl (Blt.sorted_spec (n := n) (nd := nd)).before k l h
theorem level_zero {k : Nat} {l : List Nat} (h : (needsB n nd)[k]? = some l) : 0 < (levelsB (needsB n nd)).getD k 0 ↔ l ≠ [] := by
  rw [level_eq h]
  constructor
  · intro h1 h2
    rw [(Blt.fold_max (f := fun j => (levelsB (needsB n nd)).getD j 0) l 0).2.2 h2] at h1
    omega
  · intro h1
    obtain ⟨j, hj⟩ := List.exists_mem_of_ne_nil l h1
    have := (Blt.fold_max (f := fun j => (levelsB (needsB n nd)).getD j 0) l 0).2.1 j hj
    omega
theorem order_law {i f : Nat} (hi : i < n) (hf : f < n) (h : f = i ∨ nd i f = true) :
    blkI (blocksB n nd) f ≤ blkI (blocksB n nd) i ∧ (blkI (blocksB n nd) f < blkI (blocksB n nd) i → blkI (blocksB n nd) f ∈ (needsB n nd).getD (blkI (blocksB n nd) i) [] ∧ (levelsB (needsB n nd)).getD (blkI (blocksB n nd) f) 0 < (levelsB (needsB n nd)).getD (blkI (blocksB n nd) i) 0) := by
  have hs := Blt.sorted_spec (n := n) (nd := nd)
  have hP := parts_blocks (n := n) (nd := nd)
  obtain ⟨a, ba, ha, hia⟩ := (Blt.blocksB_spec (n := n) (nd := nd)).all i hi
  obtain ⟨b, bb, hb, hfb⟩ := (Blt.blocksB_spec (n := n) (nd := nd)).all f hf
  rw [hP.at_ a ba ha i hia, hP.at_ b bb hb f hfb]
  by_cases hab : a = b
  · subst hab
    exact ⟨Nat.le_refl _, fun h => absurd h (Nat.lt_irrefl _)⟩
  · rcases h with rfl | h
    · exact absurd ((Blt.blocksB_spec (n := n) (nd := nd)).one _ _ _ _ _ ha hb hia hfb) hab
    · have hal := (List.getElem?_eq_some_iff.1 ha).1
      have hbl := (List.getElem?_eq_some_iff.1 hb).1
      have hw : waitB nd (blocksB n nd) a b = true := by
        unfold waitB
        rw [List.getD_eq_getElem?_getD, List.getD_eq_getElem?_getD, ha, hb]
        simp only [Bool.and_eq_true, bne_iff_ne, ne_eq, Option.getD_some, List.any_eq_true]
        exact ⟨hab, i, hia, f, hfb, h⟩
      have hnl : a < (needsB n nd).length := by rw [hs.len]; exact hal
      have hna : (needsB n nd)[a]? = some ((needsB n nd).getD a []) := by rw [List.getD_eq_getElem?_getD, List.getElem?_eq_getElem hnl]; rfl
      have hm := (hs.needs_iff a _ hna b).2 ⟨hbl, hw⟩
      have hlt := hs.before a _ hna b hm
      refine ⟨Nat.le_of_lt hlt, fun _ => ⟨hm, ?_⟩⟩
      rw [level_eq hna]
      exact (Blt.fold_max (f := fun j => (levelsB (needsB n nd)).getD j 0) _ 0).2.1 b hm
end
end Go.Proofs.Ytmfcefakpfbaoaa.PMatch
end
