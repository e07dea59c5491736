/- Lemmas for RowBltAny. -/
import Derived.Test.YtmfcefakpfbaoaaZBmI
section
set_option linter.unusedVariables false
set_option linter.unusedSimpArgs false
namespace Go.Proofs.Ytmfcefakpfbaoaa.PMatch
open Go.RowKit Go.Proofs.YtmfcefakpfbaoaaW.PrintWords Go.Proofs.YtmfcefakpfbaoaaW.PrintLast Go.Proofs.YtmfcefakpfbaoaaW.PrintMore
open Blt (ints blocksB needsB levelsB)
def chr (c : UInt8) : ByteArray := ⟨#[c]⟩
def useC (c : UInt8) : S47 := ⟨chr c, 0, false⟩
def E1 : List ByteArray := [chr 97, chr 98, chr 99]
def U1 : List S47 := [useC 120, useC 121, useC 122]
def J1 : List (List Int) := [[0, 1], [0], [1, 2]]
def E2 : List ByteArray := [chr 97, chr 98]
def U2 : List S47 := [useC 120, useC 121]
def J2 : List (List Int) := [[0, 1], [0, 1]]
theorem match1 : match_match.f 100 E1 U1 J1 = some [1, 0, 2] := by kernel_rfl
theorem match2 : match_match.f 100 E2 U2 J2 = some [0, 1] := by kernel_rfl
theorem matched1 : Matched E1 U1 J1 [1, 0, 2] := ⟨100, fun k hk => at_rounds (g := fun k => match_match.f k E1 U1 J1) (match_match.mono E1 U1 J1) hk match1⟩
theorem matched2 : Matched E2 U2 J2 [0, 1] := ⟨100, fun k hk => at_rounds (g := fun k => match_match.f k E2 U2 J2) (match_match.mono E2 U2 J2) hk match2⟩
theorem blocks1 : blocksB 3 (ndB J1 [1, 0, 2]) = [[1], [0], [2]] := by decide
theorem needs1 : needsB 3 (ndB J1 [1, 0, 2]) = [[], [0], [1]] := by decide
theorem levels1 : levelsB [[], [0], [1]] = [0, 1, 2] := by decide
theorem blocks2 : blocksB 2 (ndB J2 [0, 1]) = [[0, 1]] := by decide
theorem upN_next {E : List ByteArray} {i : Nat} (h0 : nameB (E.getD i ByteArray.empty) = true) (h1 : i = 0 ∨ Op.bytesLess (E.getD (i - 1) ByteArray.empty).toList (E.getD i ByteArray.empty).toList = true) : upN E i := by
  refine ⟨by rw [rdOf, Int.toNat_natCast]; exact h0, fun hi => ?_⟩
  rcases h1 with h1 | h1
  · omega
  · rw [rdOf, rdOf, Int.toNat_natCast, show ((i : Int) - 1).toNat = i - 1 by omega]; exact h1
theorem upU_next {U : List S47} {i : Nat} (h0 : useB (U.getD i z47).f0 (U.getD i z47).f1 (U.getD i z47).f2 = true) (h2 : (U.getD i z47).f2 = false) (h1 : i = 0 ∨ befB (U.getD (i - 1) z47).f0 (U.getD (i - 1) z47).f1 (U.getD (i - 1) z47).f2 (U.getD i z47).f0 (U.getD i z47).f1 (U.getD i z47).f2 = true) : upU U i := by
  refine ⟨by rw [rd_T47, Int.toNat_natCast]; exact h0, by rw [rd_T47, Int.toNat_natCast]; exact h2, fun hi => ?_⟩
  rcases h1 with h1 | h1
  · omega
  · rw [rd_T47, rd_T47, Int.toNat_natCast, show ((i : Int) - 1).toNat = i - 1 by omega]; exact h1
theorem names3 (i : Nat) (hi : i < 3) : upN E1 i := by
  rcases i with _ | _ | _ | i
  · exact upN_next (by kernel_rfl) (.inl rfl)
  · exact upN_next (by kernel_rfl) (.inr (by kernel_rfl))
  · exact upN_next (by kernel_rfl) (.inr (by kernel_rfl))
  · omega
theorem uses3 (i : Nat) (hi : i < 3) : upU U1 i := by
  rcases i with _ | _ | _ | i
  · exact upU_next (by kernel_rfl) rfl (.inl rfl)
  · exact upU_next (by kernel_rfl) rfl (.inr (by kernel_rfl))
  · exact upU_next (by kernel_rfl) rfl (.inr (by kernel_rfl))
  · omega
theorem rows1 : ∀ i : Nat, i < 3 → ∀ k, k < (rd_L4 J1 i).length → upR 3 (rd_L4 J1 i) k := by unfold upR; decide
theorem rows2 : ∀ i : Nat, i < 2 → ∀ k, k < (rd_L4 J2 i).length → upR 2 (rd_L4 J2 i) k := by unfold upR; decide
theorem valid1 : Valid E1 U1 J1 := Good.valid ⟨rfl, names3, uses3, rows1⟩ (by decide) (by decide)
theorem valid2 : Valid E2 U2 J2 := Good.valid ⟨rfl, fun i hi => by
  rcases i with _ | _ | i
  · exact upN_next (by kernel_rfl) (.inl rfl)
  · exact upN_next (by kernel_rfl) (.inr (by kernel_rfl))
  · exact absurd hi (by simp [E2]), fun i hi => by
  rcases i with _ | _ | i
  · exact upU_next (by kernel_rfl) rfl (.inl rfl)
  · exact upU_next (by kernel_rfl) rfl (.inr (by kernel_rfl))
  · exact absurd hi (by simp [U2]), rows2⟩ (by decide) (by decide)
theorem has1 : Has E1 U1 [1, 0, 2] := ⟨rfl, by decide⟩
theorem has2 : Has E2 U2 [0, 1] := ⟨rfl, by decide⟩
end Go.Proofs.Ytmfcefakpfbaoaa.PMatch
end
