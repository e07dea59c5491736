/- Lemmas for RowBltOrder. -/
import Derived.Test.YtmfcefakpfbaoaaZBmK
import Derived.Test.YtmfcefakpfbaoaaZBmL
section
set_option linter.unusedVariables false
set_option linter.unusedSimpArgs false
namespace Go.Proofs.Ytmfcefakpfbaoaa.PMatch
open Go.RowKit Go.Proofs.YtmfcefakpfbaoaaW.PrintWords Go.Proofs.YtmfcefakpfbaoaaW.PrintLast Go.Proofs.YtmfcefakpfbaoaaW.PrintMore
open Blt (ints blocksB needsB)
section
variable {E : List ByteArray} {U : List S47} {J : List (List Int)} {m : List Int}
theorem Solv.ns (h : Solv E U J m) (e : Nat) (he : e < E.length) : 0 ≤ rd m e ∧ rd m e < U.length := by
  have hml : m.length = E.length := (h.valid.out h.matched).len
  have h3 : rd m e ∈ m := by
    rw [rd, Int.toNat_natCast, List.getD_eq_getElem?_getD, List.getElem?_eq_getElem (by omega)]; exact List.getElem_mem _
  rcases (h.valid.out h.matched).row e he with h4 | ⟨⟨j, hj, h5⟩, _⟩
  · rw [h4] at h3; exact absurd h3 h.has.2
  · have h6 := (h.valid.rows e (by rw [h.valid.len]; exact he)).1 j hj
    rw [h5] at h6
    exact ⟨h6.1, h6.2.1⟩
theorem Solv.inj (h : Solv E U J m) (e f : Nat) (he : e < E.length) (hf : f < E.length) (hef : rd m e = rd m f) : e = f := by
  have key : ∀ a b : Nat, a < b → b < E.length → rd m a ≠ rd m b := fun a b hab hb => by
    rcases (h.valid.out h.matched).row b hb with h4 | ⟨_, h5⟩
    · have := (h.ns b hb).1; omega
    · exact h5 a hab
  rcases Nat.lt_trichotomy e f with h1 | h1 | h1
  · exact absurd hef (key e f h1 hf)
  · exact h1
  · exact absurd hef.symm (key f e h1 he)
variable {A0 : Option Addr} {c0 : Nat} {A1 : Option Addr} {c1 : Nat} {A2 : Option Addr} {c2 : Nat} {A3 : Option Addr} {c3 : Nat} {w : World}
theorem c_blocks_of (hs : Solv E U J m) (h0 : Kd.C Kd.string w A0 E.length E) (h1 : Kd.C k47 w A1 U.length U) (h3 : Kd.C partK w A3 (blocksB E.length (ndB J m)).length ((blocksB E.length (ndB J m)).map (partOf E U m))) :
    Calls Try.prog 11 #[.agg #[.slice A0 E.length c0, .slice A1 U.length c1, .slice A2 J.length c2], .slice A3 (blocksB E.length (ndB J m)).length c3] w fun e w' => ∃ g7 g8 F G, e = .returned (.tuple #[.slice (some ⟨g7, 0, none⟩) E.length E.length, .slice (some ⟨g8, 0, none⟩) U.length U.length, .bool true]) ∧ Below w.heap.size w w' ∧
      Row g7 E.length F w' ∧ Row g8 U.length G w' ∧ (∀ e, e < E.length → F e = (blkI (blocksB E.length (ndB J m)) e : Nat)) ∧ ∀ e : Nat, e < E.length → G (rd m e).toNat = (blkI (blocksB E.length (ndB J m)) e : Nat) := by
  obtain ⟨bl, hbl⟩ : ∃ bl, bl = blocksB E.length (ndB J m) := ⟨_, rfl⟩
  have hP : Parts E.length bl (blkI bl) := by rw [hbl]; exact parts_blocks
  have hnd : ∀ (i : Nat) b, bl[i]? = some b → b.Nodup := fun i b hb => by
    rw [hbl] at hb
    exact ((Blt.blocksB_spec).rises i b hb).imp (fun h => by omega)
  have hsm : ∀ (i : Nat) b, bl[i]? = some b → b ≠ [] := fun i b hb => by
    rw [hbl] at hb
    exact (Blt.blocksB_spec).some_ i b hb
  have hnu : E.length = U.length := hs.has.1
  have hQ := parts_uses hP hnd (fun e he => by have := hs.ns e he; rw [hnu]; exact this) hs.inj
  have hNl : bl.length ≤ 1000 := by
    have h1 := List.length_filter_le (Blt.leadB E.length (ndB J m)) (List.range E.length)
    rw [hbl, Blt.blocksB_len, Blt.blocks0, List.length_map]
    rw [List.length_range] at h1
    have := hs.valid.hE
    omega
  rw [← hbl] at h3 ⊢
  have hget : ∀ i : Nat, i < bl.length → (bl.map (usesN m)).getD i [] = usesN m (bl.getD i []) := fun i hi => by
    rw [List.getD_eq_getElem?_getD, List.getElem?_map, List.getElem?_eq_getElem hi, List.getD_eq_getElem?_getD, List.getElem?_eq_getElem hi]; rfl
  refine (c_blocks (bl := bl) (us := bl.map (usesN m)) (P := blkI bl) (Q := blkI (bl.map (usesN m))) h0 h1 h3 (fun i hi => ?_) (fun i j hij hj => hs.good.apart hij hj) (fun i j hi hj hij => hs.good.uses_ne hi hj hij) hP (by rw [← hnu]; exact hQ.1) hNl hs.valid.hE hs.valid.hU (by simp) (fun i hi => ?_) (fun i hi => ?_)).mono ?_
  · rw [hget i hi, List.getD_eq_getElem?_getD, List.getElem?_map, List.getElem?_eq_getElem hi, List.getD_eq_getElem?_getD, List.getElem?_eq_getElem hi]
    simp only [Option.map_some, Option.getD_some, partOf, usesN, List.map_map]
    rfl
  · rw [hget i hi]; simp [usesN, usesOf]
  · have h4 : bl[i]? = some (bl.getD i []) := by rw [List.getD_eq_getElem?_getD, List.getElem?_eq_getElem hi]; rfl
    intro h5
    exact hsm i _ h4 (List.length_eq_zero_iff.1 h5)
  · rintro ex w' ⟨g7, g8, F, G, rfl, hb, r7, r8, hF, hG⟩
    refine ⟨g7, g8, F, G, rfl, hb, r7, r8, hF, fun e he => ?_⟩
    have := hs.ns e he
    rw [hG _ (by omega), hQ.2 e he]
end
end Go.Proofs.Ytmfcefakpfbaoaa.PMatch
end
