/- Lemmas for RowBltAny. -/
import Derived.Test.YtmfcefakpfbaoaaZBmJ
section
set_option linter.unusedVariables false
set_option linter.unusedSimpArgs false
namespace Go.Proofs.Ytmfcefakpfbaoaa.PMatch
open Go.RowKit Go.Proofs.YtmfcefakpfbaoaaW.PrintWords Go.Proofs.YtmfcefakpfbaoaaW.PrintLast Go.Proofs.YtmfcefakpfbaoaaW.PrintMore
open Blt (ints blocksB needsB)
theorem Row.made (W : World) (n : Nat) {g : Nat} (hg : g = W.heap.size) : Row g n (fun _ => 0) (W.alloc (.cells (madeCells #[.int .i64 0] n) 3)) := by
  subst hg
  refine ⟨fun e he => ?_, fun e he => ?_, by simp⟩
  · rw [World.cell?_alloc_at _ _ _ _ rfl]
    simp [madeCells, he, Nat.mod_one]
  · rw [World.frozen?_alloc_at _ _ _ _ rfl]
section
variable {E : List ByteArray} {U : List S47} {J : List (List Int)} {A0 : Option Addr} {c0 : Nat} {A1 : Option Addr} {c1 : Nat} {A2 : Option Addr} {c2 : Nat} {A3 : Option Addr} {c3 : Nat} {BL : List (List ByteArray × List S47)} {bl us : List (List Nat)} {P Q : Nat → Nat} {w : World}
end
end Go.Proofs.Ytmfcefakpfbaoaa.PMatch
end
