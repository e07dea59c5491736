/- Lemmas for RowBltOrder. -/
import Derived.Test.YtmfcefakpfbaoaaZBmI
section
set_option linter.unusedVariables false
set_option linter.unusedSimpArgs false
namespace Go.Proofs.Ytmfcefakpfbaoaa.PMatch
open Go.RowKit Go.Proofs.YtmfcefakpfbaoaaW.PrintWords Go.Proofs.YtmfcefakpfbaoaaW.PrintLast Go.Proofs.YtmfcefakpfbaoaaW.PrintMore
open Blt (ints blocksB needsB)
theorem partK_open {w : World} {x : List ByteArray × List S47} {cs : List Value} (h : partK.K w x cs) : ∃ A0 c0 A1 c1, cs = [.slice A0 x.1.length c0, .slice A1 x.2.length c1] ∧ Kd.string.C w A0 x.1.length x.1 ∧ k47.C w A1 x.2.length x.2 := by
  obtain ⟨_, _, rfl, ⟨A0, c0, rfl, l0, g0⟩, ⟨A1, c1, rfl, l1, g1⟩⟩ := h
  exact ⟨A0, c0, A1, c1, rfl, g0, g1⟩
theorem at_part {w : World} {A : Option Addr} {n : Nat} {xs : List (List ByteArray × List S47)} (h : Kd.C partK w A n xs) (i : Nat) (h1 : i < n) : ∃ ad A0 c0 A1 c1, A = some ad ∧ w.cell? (ad.add (i * 2)) = some (.slice A0 (xs.getD i ([], [])).1.length c0) ∧ w.cell? ⟨(ad.add (i * 2)).block, (ad.add (i * 2)).off + 1, none⟩ = some (.slice A1 (xs.getD i ([], [])).2.length c1) ∧ Kd.string.C w A0 (xs.getD i ([], [])).1.length (xs.getD i ([], [])).1 ∧ k47.C w A1 (xs.getD i ([], [])).2.length (xs.getD i ([], [])).2 := by
  obtain ⟨ad, c, e, _, hK, hc0⟩ := Kd.C_get h (([], []) : List ByteArray × List S47) (i : Int) (by omega) (by omega)
  have hc : ∀ j u, c[j]? = some u → w.cell? (ad.add (i * 2 + j)) = some u := hc0
  obtain ⟨A0, c0, A1, c1, rfl, g0, g1⟩ := partK_open hK
  exact ⟨ad, A0, c0, A1, c1, e, hc 0 _ rfl, by rw [← add_field _ _ 1 (by omega)]; exact hc 1 _ rfl, g0, g1⟩
structure Row (g n : Nat) (F : Nat → Int) (W : World) : Prop where
  cell : ∀ e : Nat, e < n → W.cell? ⟨g, e, none⟩ = some (.int .i64 (F e))
  soft : ∀ e : Nat, e < n → W.frozen? ⟨g, e, none⟩ = false
  here : g < W.heap.size
def upd (F : Nat → Int) (e : Nat) (x : Int) (k : Nat) : Int := if k = e then x else F k
theorem Row.put {g n : Nat} {F : Nat → Int} {W : World} (h : Row g n F W) {e : Nat} (he : e < n) (x : Int) : Row g n (upd F e x) (W.setCell ⟨g, e, none⟩ (.int .i64 x)) := by
  refine ⟨fun k hk => ?_, fun k hk => by rw [World.frozen?_setCell]; exact h.soft k hk, by simpa using h.here⟩
  by_cases e1 : k = e
  · subst e1
    rw [World.cell?_setCell_same _ _ _ (h.cell k he)]
    simp [upd]
  · rw [World.cell?_setCell_other _ _ _ _ (by intro e2; injection e2 with _ e2 _; exact e1 e2.symm), h.cell k hk]
    simp [upd, e1]
theorem Row.far {g n : Nat} {F : Nat → Int} {W : World} (h : Row g n F W) {g' : Nat} (hg : g' ≠ g) (o : Nat) (v : Value) : Row g n F (W.setCell ⟨g', o, none⟩ v) := by
  refine ⟨fun k hk => ?_, fun k hk => by rw [World.frozen?_setCell]; exact h.soft k hk, by simpa using h.here⟩
  rw [World.cell?_setCell_other _ _ _ _ (by intro e2; injection e2 with e2 _ _; exact hg e2), h.cell k hk]
theorem Row.below {g n : Nat} {F : Nat → Int} {W W' : World} (h : Row g n F W) (hb : Below W.heap.size W W') : Row g n F W' :=
  ⟨fun k hk => pw_cell_below hb (h.cell k hk), fun k hk => (hb.frozen (by exact h.here)).trans (h.soft k hk), Nat.lt_of_lt_of_le h.here hb.size⟩
theorem Row.drew {g n : Nat} {F : Nat → Int} {W : World} (h : Row g n F W) : Row g n F W.drew := ⟨fun k hk => by rw [World.cell?_drew]; exact h.cell k hk, fun k hk => by rw [World.frozen?_drew]; exact h.soft k hk, by simpa using h.here⟩
structure St (w : World) (v0 v1 v2 : Value) (g7 g8 n u : Nat) (F G : Nat → Int) (W : World) : Prop where
  bel : Below w.heap.size w W
  b0 : W.cell? ⟨w.heap.size, 0, none⟩ = some v0
  b1 : W.cell? ⟨w.heap.size, 1, none⟩ = some v1
  b2 : W.cell? ⟨w.heap.size, 2, none⟩ = some v2
  r7 : Row g7 n F W
  r8 : Row g8 u G W
  h7 : w.heap.size < g7
  h8 : w.heap.size < g8
  ne : g7 ≠ g8
section
variable {w : World} {v0 v1 v2 : Value} {g7 g8 n u : Nat} {F G : Nat → Int} {W W' : World}
theorem St.put7 (h : St w v0 v1 v2 g7 g8 n u F G W) {e : Nat} (he : e < n) (x : Int) : St w v0 v1 v2 g7 g8 n u (upd F e x) G (W.setCell ⟨g7, e, none⟩ (.int .i64 x)) :=
  { bel := h.bel.setCell (Nat.le_of_lt h.h7) _
    b0 := (World.cell?_setCell_other _ _ _ _ (by intro e2; injection e2 with e2 _ _; have := h.h7; omega)).trans h.b0
    b1 := (World.cell?_setCell_other _ _ _ _ (by intro e2; injection e2 with e2 _ _; have := h.h7; omega)).trans h.b1
    b2 := (World.cell?_setCell_other _ _ _ _ (by intro e2; injection e2 with e2 _ _; have := h.h7; omega)).trans h.b2
    r7 := h.r7.put he x
    r8 := h.r8.far h.ne _ _
    h7 := h.h7
    h8 := h.h8
    ne := h.ne }
theorem St.put8 (h : St w v0 v1 v2 g7 g8 n u F G W) {e : Nat} (he : e < u) (x : Int) : St w v0 v1 v2 g7 g8 n u F (upd G e x) (W.setCell ⟨g8, e, none⟩ (.int .i64 x)) :=
  { bel := h.bel.setCell (Nat.le_of_lt h.h8) _
    b0 := (World.cell?_setCell_other _ _ _ _ (by intro e2; injection e2 with e2 _ _; have := h.h8; omega)).trans h.b0
    b1 := (World.cell?_setCell_other _ _ _ _ (by intro e2; injection e2 with e2 _ _; have := h.h8; omega)).trans h.b1
    b2 := (World.cell?_setCell_other _ _ _ _ (by intro e2; injection e2 with e2 _ _; have := h.h8; omega)).trans h.b2
    r7 := h.r7.far (fun e1 => h.ne e1.symm) _ _
    r8 := h.r8.put he x
    h7 := h.h7
    h8 := h.h8
    ne := h.ne }
theorem St.below (h : St w v0 v1 v2 g7 g8 n u F G W) (hb : Below W.heap.size W W') : St w v0 v1 v2 g7 g8 n u F G W' :=
  { bel := h.bel.trans (hb.mono h.bel.size)
    b0 := pw_cell_below hb h.b0
    b1 := pw_cell_below hb h.b1
    b2 := pw_cell_below hb h.b2
    r7 := h.r7.below hb
    r8 := h.r8.below hb
    h7 := h.h7
    h8 := h.h8
    ne := h.ne }
theorem St.drew (h : St w v0 v1 v2 g7 g8 n u F G W) : St w v0 v1 v2 g7 g8 n u F G W.drew :=
  { bel := below_drew h.bel
    b0 := by rw [World.cell?_drew]; exact h.b0
    b1 := by rw [World.cell?_drew]; exact h.b1
    b2 := by rw [World.cell?_drew]; exact h.b2
    r7 := h.r7.drew
    r8 := h.r8.drew
    h7 := h.h7
    h8 := h.h8
    ne := h.ne }
end
def Fil (n : Nat) (P : Nat → Nat) (done : List Nat) (F : Nat → Int) : Prop := ∀ e : Nat, e < n → F e = if e ∈ done then (P e : Int) else -1
theorem Fil.put {n : Nat} {P : Nat → Nat} {done : List Nat} {F : Nat → Int} (h : Fil n P done F) {e : Nat} {x : Nat} (hx : P e = x) : Fil n P (done ++ [e]) (upd F e (x : Int)) := fun k hk => by
  unfold upd
  by_cases e1 : k = e
  · subst e1; rw [if_pos rfl, if_pos (by simp), hx]
  · rw [if_neg e1, h k hk]
    simp [e1]
theorem Fil.none {n : Nat} {P : Nat → Nat} {F : Nat → Int} (h : ∀ k, k < n → F k = -1) : Fil n P [] F := fun e he => by rw [h e he]; simp
theorem Fil.neg {n : Nat} {P : Nat → Nat} {done : List Nat} {F : Nat → Int} (h : Fil n P done F) {e : Nat} (he : e < n) (hn : e ∉ done) : F e = -1 := by rw [h e he, if_neg hn]
theorem Fil.all {n : Nat} {P : Nat → Nat} {done : List Nat} {F : Nat → Int} (h : Fil n P done F) (hd : ∀ e, e < n → e ∈ done) {e : Nat} (he : e < n) : F e = P e := by rw [h e he, if_pos (hd e he)]
structure Parts (n : Nat) (bl : List (List Nat)) (P : Nat → Nat) : Prop where
  lt : ∀ (i : Nat) b, bl[i]? = some b → ∀ e ∈ b, e < n
  at_ : ∀ (i : Nat) b, bl[i]? = some b → ∀ e ∈ b, P e = i
  nodup : bl.flatten.Nodup
  len : bl.flatten.length = n
  all : ∀ e, e < n → e ∈ bl.flatten
def doneL (bl : List (List Nat)) (i q : Nat) : List Nat := (bl.take i).flatten ++ (bl.getD i []).take q
theorem doneL_zero {bl : List (List Nat)} : doneL bl 0 0 = [] := by simp [doneL]
theorem doneL_next {bl : List (List Nat)} {i q : Nat} {e : Nat} (h : (bl.getD i [])[q]? = some e) : doneL bl i (q + 1) = doneL bl i q ++ [e] := by
  rw [doneL, doneL, List.take_add_one, h]; simp
theorem doneL_row {bl : List (List Nat)} {i : Nat} (hi : i < bl.length) : doneL bl i (bl.getD i []).length = doneL bl (i + 1) 0 := by
  have h1 : bl.take (i + 1) = bl.take i ++ [bl.getD i []] := by
    rw [List.take_add_one, List.getD_eq_getElem?_getD, List.getElem?_eq_getElem hi]; rfl
  rw [doneL, doneL, h1]; simp
theorem doneL_end {bl : List (List Nat)} : doneL bl bl.length 0 = bl.flatten := by simp [doneL]
theorem doneL_len {bl : List (List Nat)} {i q : Nat} (hi : i < bl.length) (hq : q ≤ (bl.getD i []).length) : (doneL bl i q).length ≤ bl.flatten.length := by
  have h1 : bl = bl.take i ++ (bl.getD i []) :: bl.drop (i + 1) := by
    rw [List.getD_eq_getElem?_getD, List.getElem?_eq_getElem hi]; simp
  have h2 : bl.flatten.length = (bl.take i).flatten.length + ((bl.getD i []).length + (bl.drop (i + 1)).flatten.length) := by
    conv => lhs; rw [h1]
    simp [List.length_append]
  rw [h2, doneL, List.length_append, List.length_take]
  omega
theorem doneL_new {bl : List (List Nat)} {i q e : Nat} (hn : bl.flatten.Nodup) (hi : i < bl.length) (h : (bl.getD i [])[q]? = some e) : e ∉ doneL bl i q := by
  have h1 : bl = bl.take i ++ (bl.getD i []) :: bl.drop (i + 1) := by
    rw [List.getD_eq_getElem?_getD, List.getElem?_eq_getElem hi]; simp
  have hq := (List.getElem?_eq_some_iff.1 h).1
  have h2 : bl.getD i [] = (bl.getD i []).take q ++ (e :: (bl.getD i []).drop (q + 1)) := by
    conv => lhs; rw [← List.take_append_drop q (bl.getD i [])]
    rw [List.drop_eq_getElem_cons hq]
    have := (List.getElem?_eq_some_iff.1 h).2
    rw [this]
  have h3 : bl.flatten = doneL bl i q ++ (e :: ((bl.getD i []).drop (q + 1) ++ (bl.drop (i + 1)).flatten)) := by
    conv => lhs; rw [h1]
    rw [List.flatten_append, List.flatten_cons]
    conv => lhs; rw [h2]
    simp [doneL, List.append_assoc]
  rw [h3, List.nodup_append] at hn
  intro hm
  exact hn.2.2 e hm e (by simp) rfl
end Go.Proofs.Ytmfcefakpfbaoaa.PMatch
end
