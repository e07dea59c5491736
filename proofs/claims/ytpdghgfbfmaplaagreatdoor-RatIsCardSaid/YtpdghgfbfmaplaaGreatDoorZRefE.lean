/- Lemmas and contracts for the statement RowRatIs: merged by wip/assemble.py. -/
import Derived.Test.YtpdghgfbfmaplaaGreatDoorQY
import Derived.Test.YtpdghgfbfmaplaaGreatDoorZRefD
import Derived.Test.YtpdghgfbfmaplaaGreatDoorQH
import Derived.Test.YtpdghgfbfmaplaaGreatDoorZFrA
import Derived.Test.YtpdghgfbfmaplaaGreatDoorQL
set_option maxRecDepth 100000
set_option maxHeartbeats 8000000
section
set_option linter.unusedVariables false
set_option linter.unusedSimpArgs false
namespace Go.Proofs.YtpdghgfbfmaplaaGreatDoor.Rf
open Go.RowKit Go.Proofs.YtpdghgfbfmaplaaGreatDoorW.PrintWords Go.Proofs.YtpdghgfbfmaplaaGreatDoor.Num Go.Proofs.YtpdghgfbfmaplaaGreatDoor.PRef Go.Proofs.YtpdghgfbfmaplaaGreatDoor.WhC Go.Proofs.YtpdghgfbfmaplaaGreatDoor.Dec Go.Proofs.YtpdghgfbfmaplaaGreatDoor.Wh
structure QV where
 b : Bool
 nA : Option Addr
 nn : Nat
 nc : Nat
 dA : Option Addr
 dn : Nat
 dc : Nat
def IsQ (P : Nat → Prop) (K : Nat) (w : World) (x : QV) (q : Rat) : Prop := IsD P K w x.nA x.nn x.nc (q.num.natAbs : Int) ∧ IsD P K w x.dA x.dn x.dc (q.den : Int) ∧ x.b = decide (q.num < 0)
section
variable {P P' : Nat → Prop} {K K' s n : Nat} {w W W1 : World} {x : QV} {q : Rat}
theorem IsQ.hn (h : IsQ P K w x q) : IsD P K w x.nA x.nn x.nc (q.num.natAbs : Int) := h.1
theorem IsQ.hd (h : IsQ P K w x q) : IsD P K w x.dA x.dn x.dc (q.den : Int) := h.2.1
theorem IsQ.hb (h : IsQ P K w x q) : x.b = decide (q.num < 0) := h.2.2
theorem IsQ.below (h : IsQ P K w x q) (hb : Below w.heap.size w W1) : IsQ P K W1 x q := ⟨h.1.below hb, h.2.1.below hb, h.2.2⟩
theorem IsQ.tight (h : IsQ P K w x q) (h1 : q.num.natAbs < 10000 ^ K') (h2 : q.den < 10000 ^ K') : IsQ P K' w x q := ⟨h.1.tight (by simpa using h1), h.2.1.tight (by simpa using h2), h.2.2⟩
theorem IsQ.gap (h : IsQ P K w x q) (n : Nat) : IsQ (Gp P w.heap.size n) K w x q := ⟨h.1.gap n, h.2.1.gap n, h.2.2⟩
theorem IsQ.ungap (h : IsQ (Gp P s n) K w x q) : IsQ P K w x q := ⟨h.1.ungap, h.2.1.ungap, h.2.2⟩
theorem IsQ.put (h : IsQ (Gp P s n) K w x q) {p : Addr} (u : Value) (h1 : s ≤ p.block) (h2 : p.block < s + n) : IsQ (Gp P s n) K (w.setCell p u) x q := ⟨h.1.put u h1 h2, h.2.1.put u h1 h2, h.2.2⟩
theorem IsQ.alc (h : IsQ P K w x q) {o : Obj} : IsQ P K (w.alloc o) x q := ⟨h.1.alc, h.2.1.alc, h.2.2⟩
theorem IsQ.drw (h : IsQ P K w x q) : IsQ P K w.drew x q := ⟨h.1.drw, h.2.1.drw, h.2.2⟩
theorem IsQ.bdn (h : IsQ P K w x q) : q.num.natAbs < 10000 ^ K := by have := h.1.bd; simpa using this
theorem IsQ.bdd (h : IsQ P K w x q) : q.den < 10000 ^ K := by have := h.2.1.bd; simpa using this
theorem isd_nil {A : Option Addr} {n c : Nat} {z : Int} (h : IsD P K w A n c z) : n = 0 ↔ z = 0 := by
 obtain ⟨l, rfl, _, hr, _⟩ := h
 rw [← hr.nil_iff (by decide)]; exact List.length_eq_zero_iff
end
section
variable {P : Nat → Prop} {K K' : Nat} {w : World} {A A' : Option Addr} {n n' c c' : Nat} {z u : Int}
end
end Go.Proofs.YtpdghgfbfmaplaaGreatDoor.Rf
end
