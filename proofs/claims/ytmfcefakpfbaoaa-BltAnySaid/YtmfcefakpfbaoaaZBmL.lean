/- Lemmas for RowBltAny. -/
import Derived.Test.YtmfcefakpfbaoaaZBmJ
section
set_option linter.unusedVariables false
set_option linter.unusedSimpArgs false
namespace Go.Proofs.Ytmfcefakpfbaoaa.PMatch
open Go.RowKit Go.Proofs.YtmfcefakpfbaoaaW.PrintWords Go.Proofs.YtmfcefakpfbaoaaW.PrintLast Go.Proofs.YtmfcefakpfbaoaaW.PrintMore
open Blt (ints blocksB needsB)
theorem bytes_irr : ∀ x : List UInt8, Op.bytesLess x x = false
  | [] => rfl
  | a :: x => by rw [Op.bytesLess, bytes_irr x]; simp
theorem bytes_trans : ∀ {x y z : List UInt8}, Op.bytesLess x y = true → Op.bytesLess y z = true → Op.bytesLess x z = true
  | [], [], _, h, _ => by simp [Op.bytesLess] at h
  | _ :: _, [], _, h, _ => by simp [Op.bytesLess] at h
  | [], _ :: _, [], _, h => by simp [Op.bytesLess] at h
  | [], _ :: _, _ :: _, _, _ => rfl
  | _ :: _, _ :: _, [], _, h => by simp [Op.bytesLess] at h
  | a :: x, b :: y, c :: z, h1, h2 => by
    simp only [Op.bytesLess, Bool.or_eq_true, decide_eq_true_eq, Bool.and_eq_true, beq_iff_eq] at h1 h2 ⊢
    rcases h1 with h1 | ⟨rfl, h1⟩
    · rcases h2 with h2 | ⟨rfl, h2⟩
      · exact .inl (UInt8.lt_trans h1 h2)
      · exact .inl h1
    · rcases h2 with h2 | ⟨rfl, h2⟩
      · exact .inl h2
      · exact .inr ⟨rfl, bytes_trans h1 h2⟩
theorem rise_all {n : Nat} {R : Nat → Nat → Prop} (htr : ∀ i j k, R i j → R j k → R i k) (h : ∀ i, i + 1 < n → R i (i + 1)) : ∀ d i, i + d + 1 < n → R i (i + d + 1)
  | 0, i, hi => h i hi
  | d + 1, i, hi => htr _ _ _ (rise_all htr h d i (by omega)) (h (i + d + 1) (by omega))
theorem Good.apart {E : List ByteArray} {U : List S47} {J : List (List Int)} (h : Good E U J) {i j : Nat} (hij : i < j) (hj : j < E.length) : (E.getD i ByteArray.empty).toList ≠ (E.getD j ByteArray.empty).toList := by
  have hr := rise_all (n := E.length) (R := fun i j => Op.bytesLess (E.getD i ByteArray.empty).toList (E.getD j ByteArray.empty).toList = true) (fun _ _ _ => bytes_trans) (fun k hk => by
    have h1 := (h.names (k + 1) hk).2 (by omega)
    rw [show ((k + 1 : Nat) : Int) - 1 = (k : Int) by omega, rdOf, rdOf, Int.toNat_natCast, Int.toNat_natCast] at h1
    exact h1) (j - i - 1) i (by omega)
  rw [show i + (j - i - 1) + 1 = j by omega] at hr
  intro e
  rw [e, bytes_irr] at hr
  cases hr
end Go.Proofs.Ytmfcefakpfbaoaa.PMatch
end
