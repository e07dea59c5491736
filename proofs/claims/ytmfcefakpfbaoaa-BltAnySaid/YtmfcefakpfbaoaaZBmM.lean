/- Lemmas for RowBltAny. -/
import Derived.Test.YtmfcefakpfbaoaaZBmK
import Derived.Test.YtmfcefakpfbaoaaZBmL
section
set_option linter.unusedVariables false
set_option linter.unusedSimpArgs false
namespace Go.Proofs.Ytmfcefakpfbaoaa.PMatch
open Go.RowKit Go.Proofs.YtmfcefakpfbaoaaW.PrintWords Go.Proofs.YtmfcefakpfbaoaaW.PrintLast Go.Proofs.YtmfcefakpfbaoaaW.PrintMore
open Blt (ints blocksB needsB)
section
variable {E : List ByteArray} {U : List S47} {J : List (List Int)} {m : List Int}
theorem Solv.ns (h : Solv E U J m) (e : Nat) (he : e < E.length) : 0 ≤ rd m e ∧ rd m e < U.length := by
  have hml : m.length = E.length := (h.valid.out h.matched).len
  have h3 : rd m e ∈ m := by
    rw [rd, Int.toNat_natCast, List.getD_eq_getElem?_getD, List.getElem?_eq_getElem (by omega)]; exact List.getElem_mem _
  rcases (h.valid.out h.matched).row e he with h4 | ⟨⟨j, hj, h5⟩, _⟩
  · rw [h4] at h3; exact absurd h3 h.has.2
  · have h6 := (h.valid.rows e (by rw [h.valid.len]; exact he)).1 j hj
    rw [h5] at h6
    exact ⟨h6.1, h6.2.1⟩
theorem Solv.inj (h : Solv E U J m) (e f : Nat) (he : e < E.length) (hf : f < E.length) (hef : rd m e = rd m f) : e = f := by
  have key : ∀ a b : Nat, a < b → b < E.length → rd m a ≠ rd m b := fun a b hab hb => by
    rcases (h.valid.out h.matched).row b hb with h4 | ⟨_, h5⟩
    · have := (h.ns b hb).1; omega
    · exact h5 a hab
  rcases Nat.lt_trichotomy e f with h1 | h1 | h1
  · exact absurd hef (key e f h1 hf)
  · exact h1
  · exact absurd hef.symm (key f e h1 he)
variable {A0 : Option Addr} {c0 : Nat} {A1 : Option Addr} {c1 : Nat} {A2 : Option Addr} {c2 : Nat} {A3 : Option Addr} {c3 : Nat} {w : World}
end
end Go.Proofs.Ytmfcefakpfbaoaa.PMatch
end
