/- Lemmas for RowBltAny. -/
import Derived.Test.YtmfcefakpfbaoaaZBmI
section
set_option linter.unusedVariables false
set_option linter.unusedSimpArgs false
namespace Go.Proofs.Ytmfcefakpfbaoaa.PMatch
open Go.RowKit Go.Proofs.YtmfcefakpfbaoaaW.PrintWords Go.Proofs.YtmfcefakpfbaoaaW.PrintLast Go.Proofs.YtmfcefakpfbaoaaW.PrintMore
open Blt (ints blocksB needsB)
theorem partK_open {w : World} {x : List ByteArray × List S47} {cs : List Value} (h : partK.K w x cs) : ∃ A0 c0 A1 c1, cs = [.slice A0 x.1.length c0, .slice A1 x.2.length c1] ∧ Kd.string.C w A0 x.1.length x.1 ∧ k47.C w A1 x.2.length x.2 := by
  obtain ⟨_, _, rfl, ⟨A0, c0, rfl, l0, g0⟩, ⟨A1, c1, rfl, l1, g1⟩⟩ := h
  exact ⟨A0, c0, A1, c1, rfl, g0, g1⟩
theorem at_part {w : World} {A : Option Addr} {n : Nat} {xs : List (List ByteArray × List S47)} (h : Kd.C partK w A n xs) (i : Nat) (h1 : i < n) : ∃ ad A0 c0 A1 c1, A = some ad ∧ w.cell? (ad.add (i * 2)) = some (.slice A0 (xs.getD i ([], [])).1.length c0) ∧ w.cell? ⟨(ad.add (i * 2)).block, (ad.add (i * 2)).off + 1, none⟩ = some (.slice A1 (xs.getD i ([], [])).2.length c1) ∧ Kd.string.C w A0 (xs.getD i ([], [])).1.length (xs.getD i ([], [])).1 ∧ k47.C w A1 (xs.getD i ([], [])).2.length (xs.getD i ([], [])).2 := by
  obtain ⟨ad, c, e, _, hK, hc0⟩ := Kd.C_get h (([], []) : List ByteArray × List S47) (i : Int) (by omega) (by omega)
  have hc : ∀ j u, c[j]? = some u → w.cell? (ad.add (i * 2 + j)) = some u := hc0
  obtain ⟨A0, c0, A1, c1, rfl, g0, g1⟩ := partK_open hK
  exact ⟨ad, A0, c0, A1, c1, e, hc 0 _ rfl, by rw [← add_field _ _ 1 (by omega)]; exact hc 1 _ rfl, g0, g1⟩
structure Row (g n : Nat) (F : Nat → Int) (W : World) : Prop where
  cell : ∀ e : Nat, e < n → W.cell? ⟨g, e, none⟩ = some (.int .i64 (F e))
  soft : ∀ e : Nat, e < n → W.frozen? ⟨g, e, none⟩ = false
  here : g < W.heap.size
def upd (F : Nat → Int) (e : Nat) (x : Int) (k : Nat) : Int := if k = e then x else F k
theorem Row.put {g n : Nat} {F : Nat → Int} {W : World} (h : Row g n F W) {e : Nat} (he : e < n) (x : Int) : Row g n (upd F e x) (W.setCell ⟨g, e, none⟩ (.int .i64 x)) := by
  refine ⟨fun k hk => ?_, fun k hk => by rw [World.frozen?_setCell]; exact h.soft k hk, by simpa using h.here⟩
  by_cases e1 : k = e
  · subst e1
    rw [World.cell?_setCell_same _ _ _ (h.cell k he)]
    simp [upd]
  · rw [World.cell?_setCell_other _ _ _ _ (by intro e2; injection e2 with _ e2 _; exact e1 e2.symm), h.cell k hk]
    simp [upd, e1]
section
variable {w : World} {v0 v1 v2 : Value} {g7 g8 n u : Nat} {F G : Nat → Int} {W W' : World}
end
def Fil (n : Nat) (P : Nat → Nat) (done : List Nat) (F : Nat → Int) : Prop := ∀ e : Nat, e < n → F e = if e ∈ done then (P e : Int) else -1
theorem Fil.put {n : Nat} {P : Nat → Nat} {done : List Nat} {F : Nat → Int} (h : Fil n P done F) {e : Nat} {x : Nat} (hx : P e = x) : Fil n P (done ++ [e]) (upd F e (x : Int)) := fun k hk => by
  unfold upd
  by_cases e1 : k = e
  · subst e1; rw [if_pos rfl, if_pos (by simp), hx]
  · rw [if_neg e1, h k hk]
    simp [e1]
theorem Fil.all {n : Nat} {P : Nat → Nat} {done : List Nat} {F : Nat → Int} (h : Fil n P done F) (hd : ∀ e, e < n → e ∈ done) {e : Nat} (he : e < n) : F e = P e := by rw [h e he, if_pos (hd e he)]
end Go.Proofs.Ytmfcefakpfbaoaa.PMatch
end
