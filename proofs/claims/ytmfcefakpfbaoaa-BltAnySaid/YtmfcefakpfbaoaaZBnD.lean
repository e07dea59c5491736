/- Lemmas for RowBltAny. -/
import Derived.Test.YtmfcefakpfbaoaaZBmE
import Derived.Test.YtmfcefakpfbaoaaZBnC
section
set_option linter.unusedVariables false
set_option linter.unusedSimpArgs false
namespace Go.Proofs.Ytmfcefakpfbaoaa.PMatch
open Go.RowKit Go.Proofs.YtmfcefakpfbaoaaW.PrintWords Go.Proofs.YtmfcefakpfbaoaaW.PrintLast Go.Proofs.YtmfcefakpfbaoaaW.PrintMore
open Blt (ints blocksB needsB levelsB)
section
variable {E : List ByteArray} {U : List S47} {J : List (List Int)} {m : List Int}
variable {A0 : Option Addr} {c0 : Nat} {A1 : Option Addr} {c1 : Nat} {A2 : Option Addr} {c2 : Nat} {w : World}
theorem R_alone {W : World} {base : Nat} {ok : Nat → Prop} {v : Value} {xs : List Int} (h : Kd.R (Kd.int .i64) 3 W base ok v xs) : Kd.R (Kd.int .i64) 3 W base (fun k => v.ownBlock = some k) v xs :=
  Kd.R_of_own (enc := Value.int .i64) (h1 := fun _ => rfl) (Kd.own_of_R (enc := Value.int .i64) (h1 := fun _ => rfl) h) (fun k hk => hk)
theorem R_true {W : World} {base : Nat} {ok : Nat → Prop} {v : Value} {xs : List Int} (h : Kd.R (Kd.int .i64) 3 W base ok v xs) : Kd.R (Kd.int .i64) 3 W base (fun _ => True) v xs := Kd.R_mono h fun _ _ => trivial
def Two (v u : Value) : Prop := ∀ k, v.ownBlock = some k → u.ownBlock ≠ some k
theorem R_past {W W' : World} {base : Nat} {ok : Nat → Prop} {v u : Value} {xs : List Int} (h : Kd.R (Kd.int .i64) 3 W base ok v xs) (ht : Two v u) (hg : W.grownBy W' u.ownBlock) : Kd.R (Kd.int .i64) 3 W' base (fun _ => True) v xs :=
  R_true (Kd.R_grown (R_alone h) hg fun k hk e => ht k hk e.symm)
theorem Two.grow {W : World} {base : Nat} {ok : Nat → Prop} {v v' u : Value} {ys : List Int} (ht : Two v u) (hu : Kd.R (Kd.int .i64) 3 W base ok u ys) (hat : v'.ownBlock = v.ownBlock ∨ ∃ b, v'.ownBlock = some b ∧ W.heap.size ≤ b) : Two v' u := fun k hk hku => by
  rcases hat with h | ⟨b, h, hb⟩
  · rw [h] at hk; exact ht k hk hku
  · rw [h] at hk
    injection hk with hk
    subst hk
    have := Kd.R_lt hu b hku
    omega
theorem Two.symm {v u : Value} (h : Two v u) : Two u v := fun k hk hkv => h k hkv hk
theorem usesOf_len {m : List Int} {b : List Nat} : (usesOf m b).length = b.length := by simp [usesOf]
end
end Go.Proofs.Ytmfcefakpfbaoaa.PMatch
end
