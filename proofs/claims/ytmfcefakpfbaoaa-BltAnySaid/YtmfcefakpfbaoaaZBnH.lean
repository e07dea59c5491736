/- Lemmas for RowBltAny. -/
import Derived.Test.YtmfcefakpfbaoaaZBnG
import Derived.Test.YtmfcefakpfbaoaaZBmM
import Derived.Test.YtmfcefakpfbaoaaZBmL
import Derived.Test.YtmfcefakpfbaoaaZBmS
import Derived.Test.YtmfcefakpfbaoaaZBnD
import Derived.Test.YtmfcefakpfbaoaaZBnI
section
set_option linter.unusedVariables false
set_option linter.unusedSimpArgs false
namespace Go.Proofs.Ytmfcefakpfbaoaa.PMatch
open Go.RowKit Go.Proofs.YtmfcefakpfbaoaaW.PrintWords Go.Proofs.YtmfcefakpfbaoaaW.PrintLast Go.Proofs.YtmfcefakpfbaoaaW.PrintMore
open Blt (ints blocksB needsB levelsB)
theorem C_takeN {W : World} {A : Option Addr} {l : List Nat} {k : Nat} (h : Kd.C (Kd.int .i64) W A (ints l).length (ints l)) (hk : k ≤ l.length) : Kd.C (Kd.int .i64) W A k (ints (l.take k)) := by
 have h2 := Kd.C_take h (m := k) (by rw [ints_len]; exact hk)
 have e1 : (ints l).take k = ints (l.take k) := by simp [ints]
 rw [e1, ints_len, List.length_take, Nat.min_eq_left hk] at h2
 exact h2
theorem C_dropN {W : World} {A : Option Addr} {l : List Nat} {k c : Nat} (h : Kd.C (Kd.int .i64) W A (ints l).length (ints l)) (hk : k ≤ l.length) (hc : l.length ≤ c) : Kd.C (Kd.int .i64) W (if c = k then A else A.map (·.add k)) (l.length - k) (ints (l.drop k)) := by
 have h2 := Kd.C_drop h (m := k) (c := c) (by rw [ints_len]; exact hk) (by rw [ints_len]; exact hc)
 have e1 : (ints l).drop k = ints (l.drop k) := by simp [ints]
 have e2 : (Kd.int .i64).sz = 1 := rfl
 rw [e1, ints_len, List.length_drop, e2] at h2
 simpa using h2
theorem Two.nil {v : Value} : Two v (.slice none 0 0) := fun k _ h => by simp [Value.ownBlock] at h
theorem pick_perm {At Lf R : List Nat} {k x : Nat} (hp : (At ++ Lf).Perm R) (hk : k < Lf.length) (hx : x = Lf.getD k 0) : ((At ++ [x]) ++ (Lf.take k ++ Lf.drop (k + 1))).Perm R := by
 have e1 : Lf = Lf.take k ++ (x :: Lf.drop (k + 1)) := by
  have := List.take_append_drop k Lf
  rw [List.drop_eq_getElem_cons hk] at this
  rw [hx, List.getD_eq_getElem?_getD, List.getElem?_eq_getElem hk]
  exact this.symm
 refine List.Perm.trans ?_ hp
 conv => rhs; rw [e1]
 rw [List.append_assoc, List.singleton_append]
 exact List.Perm.append_left At (List.perm_middle.symm)
theorem conv_chr (w : World) (i : Nat) : (convert 45 9 (.slice (some ⟨w.heap.size, 0, none⟩) 1 1)).run Try.prog (w.alloc (.cells #[.int .u8 (97 + (i : Int))] 5)) = .ok (.string (chr (UInt8.ofNat (97 + i)))) (w.alloc (.cells #[.int .u8 (97 + (i : Int))] 5)) := by
 have hC : (Kd.int .u8).C (w.alloc (.cells #[.int .u8 (97 + (i : Int))] 5)) (some ⟨w.heap.size, 0, none⟩) (0 + 1) ([] ++ [97 + (i : Int)]) :=
  C_snoc (C_zero _ _ _) (by decide) (c := [.int .u8 (97 + (i : Int))]) rfl (fun j u hu => by
   rcases j with _ | j
   ·injection hu with hu; subst hu
    rw [World.cell?_alloc_at _ _ _ _ rfl]; rfl
   ·simp at hu)
 have h := Kd.C_string (P := Try.prog) (src := 45) (dst := 9) (c := 1) Try.underlying45 Try.underlying5 Try.underlying9 hC
 rw [h]
 have : strOfNums ([] ++ [97 + (i : Int)]) = chr (UInt8.ofNat (97 + i)) := by
  unfold strOfNums chr
  have e1 : (97 + (i : Int)).toNat = 97 + i := by omega
  simp [e1]
 rw [this]
theorem UH_succ {i : Nat} : UH (i + 1) = UH i ++ [useH i] := by simp [UH, List.range_succ]
theorem EH_succ {i : Nat} : EH (i + 1) = EH i ++ [nmC 102 i] := by simp [EH, List.range_succ]
theorem JH_take {J : List (List Int)} {At : List Nat} {n e : Nat} (he : e < n) : (JH J At n).take (e + 1) = (JH J At n).take e ++ [ints (rowH J At n e)] := by
 rw [List.take_add_one, JH, List.getElem?_map, List.getElem?_range he]; rfl
theorem rowH_len {J : List (List Int)} {At : List Nat} {n e : Nat} : (rowH J At n e).length ≤ n := by
 have := List.length_filter_le (fun k => decide (((At.getD k 0 : Nat) : Int) ∈ rd_L4 J e)) (List.range n)
 rw [List.length_range] at this; exact this
theorem rowH_in {J : List (List Int)} {At : List Nat} {k e : Nat} (h : ((At.getD k 0 : Nat) : Int) ∈ rd_L4 J e) : rowH J At (k + 1) e = rowH J At k e ++ [k] := by
 rw [rowH, List.range_succ, List.filter_append]
 congr 1
 exact List.filter_cons_of_pos (by exact decide_eq_true h)
theorem rowH_out {J : List (List Int)} {At : List Nat} {k e : Nat} (h : ¬ ((At.getD k 0 : Nat) : Int) ∈ rd_L4 J e) : rowH J At (k + 1) e = rowH J At k e := by
 rw [rowH, List.range_succ, List.filter_append]
 have h2 : List.filter (fun k => decide (((At.getD k 0 : Nat) : Int) ∈ rd_L4 J (e : Int))) [k] = [] := List.filter_cons_of_neg (by simpa using h)
 rw [h2, List.append_nil]; rfl
theorem usesOf_all {m : List Int} {b : List Nat} {x : Int} : x ∈ usesOf m b ↔ ∃ e ∈ b, rd m (e : Int) = x := by
 unfold usesOf
 rw [List.mem_mergeSort, List.mem_map]
theorem any_use {m mh : List Int} {At bb : List Nat} {n : Nat} (hrg : ∀ e : Nat, e < n → 0 ≤ rd mh e ∧ rd mh e < n) (hlt : ∀ e ∈ bb, e < n) (hp : At.Perm (List.range n)) (hpr : ∀ e ∈ bb, ∃ f ∈ bb, ((At.getD (rd mh e).toNat 0 : Nat) : Int) = rd m f) {i : Nat} (hi : i < bb.length) :
  ∃ k y i0 : Nat, k < n ∧ (usesOf mh bb).getD i 0 = (k : Int) ∧ At.getD k 0 = y ∧ y < n ∧ i0 < bb.length ∧ (usesOf m bb).getD i0 0 = (y : Int) := by
 have h0 : i < (usesOf mh bb).length := by rw [usesOf_len]; exact hi
 have h1 : (usesOf mh bb).getD i 0 ∈ usesOf mh bb := by rw [List.getD_eq_getElem?_getD, List.getElem?_eq_getElem h0]; exact List.getElem_mem _
 obtain ⟨e, he, h2⟩ := usesOf_all.1 h1
 obtain ⟨f, hf, h3⟩ := hpr e he
 have h4 := hrg e (hlt e he)
 obtain ⟨k, hk⟩ : ∃ k : Nat, rd mh e = (k : Int) := ⟨(rd mh e).toNat, by omega⟩
 rw [hk, Int.toNat_natCast] at h3
 have hkn : k < n := by omega
 have hal : At.length = n := by rw [hp.length_eq, List.length_range]
 have hym : At.getD k 0 ∈ At := by rw [List.getD_eq_getElem?_getD, List.getElem?_eq_getElem (by omega)]; exact List.getElem_mem _
 have hyn : At.getD k 0 < n := List.mem_range.1 (hp.mem_iff.1 hym)
 obtain ⟨i0, hi0, h5⟩ := List.getElem_of_mem (usesOf_all.2 ⟨f, hf, h3.symm⟩ : ((At.getD k 0 : Nat) : Int) ∈ usesOf m bb)
 refine ⟨k, At.getD k 0, i0, hkn, by rw [← h2, hk], rfl, hyn, by rw [usesOf_len] at hi0; exact hi0, ?_⟩
 rw [List.getD_eq_getElem?_getD, List.getElem?_eq_getElem hi0, h5]; rfl
theorem nm_k {s : ByteArray} {k : Nat} (hs : s = nmC 118 k) (h : 1 < s.size) (hk : k < 100) : IntKind.u8.wrap (((s[1]'h).toNat : Int) - 97) = (k : Int) := by
 subst hs
 have h2 : ((nmC 118 k)[1]'h) = UInt8.ofNat (97 + k) := rfl
 rw [h2, UInt8.toNat_ofNat', IntKind.wrap_u8]
 omega
structure Hg (wi : World) (vE vU vJ : Value) (LE : List ByteArray) (LU : List S47) (LJ : List (List Int)) (W : World) : Prop where
 bel : Below wi.heap.size wi W
 e0 : W.cell? ⟨wi.heap.size, 0, none⟩ = some vE
 e1 : W.cell? ⟨wi.heap.size, 1, none⟩ = some vU
 e2 : W.cell? ⟨wi.heap.size, 2, none⟩ = some vJ
 f0 : W.frozen? ⟨wi.heap.size, 0, none⟩ = false
 f1 : W.frozen? ⟨wi.heap.size, 1, none⟩ = false
 f2 : W.frozen? ⟨wi.heap.size, 2, none⟩ = false
 rE : Kd.string.R 9 W (wi.heap.size + 1) (fun k => wi.heap.size < k) vE LE
 rU : k47.R 47 W (wi.heap.size + 1) (fun k => wi.heap.size < k) vU LU
 rJ : (Kd.slice 3 (Kd.int .i64)).R 31 W (wi.heap.size + 1) (fun k => wi.heap.size < k) vJ LJ
theorem Hg.new (wi : World) : Hg wi (.slice none 0 0) (.slice none 0 0) (.slice none 0 0) [] [] [] (wi.alloc (.cells #[.slice none 0 0, .slice none 0 0, .slice none 0 0] 26)) :=
 {bel := below_alloc (Below.refl _ _) _
  e0 := by rw [World.cell?_alloc_at _ _ _ _ rfl]; rfl
  e1 := by rw [World.cell?_alloc_at _ _ _ _ rfl]; rfl
  e2 := by rw [World.cell?_alloc_at _ _ _ _ rfl]; rfl
  f0 := by rw [World.frozen?_alloc_at _ _ _ _ rfl]
  f1 := by rw [World.frozen?_alloc_at _ _ _ _ rfl]
  f2 := by rw [World.frozen?_alloc_at _ _ _ _ rfl]
  rE := Kd.R_nil _ _ _ _ _
  rU := Kd.R_nil _ _ _ _ _
  rJ := Kd.R_nil _ _ _ _ _ }
theorem Hg.below {wi W W' : World} {vE vU vJ : Value} {LE : List ByteArray} {LU : List S47} {LJ : List (List Int)} (h : Hg wi vE vU vJ LE LU LJ W) (hb : Below W.heap.size W W') : Hg wi vE vU vJ LE LU LJ W' :=
 have hh : wi.heap.size < W.heap.size := World.block_lt_of_cell? _ _ h.e0
 {bel := h.bel.trans (hb.mono h.bel.size)
  e0 := pw_cell_below hb h.e0
  e1 := pw_cell_below hb h.e1
  e2 := pw_cell_below hb h.e2
  f0 := (hb.frozen (by exact hh)).trans h.f0
  f1 := (hb.frozen (by exact hh)).trans h.f1
  f2 := (hb.frozen (by exact hh)).trans h.f2
  rE := Kd.R_below h.rE hb
  rU := Kd.R_below h.rU hb
  rJ := Kd.R_below h.rJ hb }
theorem Hg.toJ {wi W : World} {vE vU vJ : Value} {LE : List ByteArray} {LU : List S47} {LJ LJ' : List (List Int)} (h : Hg wi vE vU vJ LE LU LJ W) (e : LJ = LJ') : Hg wi vE vU vJ LE LU LJ' W := e ▸ h
theorem Hg.midE {wi W W' : World} {vE vU vJ : Value} {LE : List ByteArray} {LU : List S47} {LJ : List (List Int)} (h : Hg wi vE vU vJ LE LU LJ W) (hg : W.grownBy W' vE.ownBlock) :
  W'.cell? ⟨wi.heap.size, 0, none⟩ = some vE ∧ W'.frozen? ⟨wi.heap.size, 0, none⟩ = false := by
 have hh : wi.heap.size < W.heap.size := World.block_lt_of_cell? _ _ h.e0
 have hne : some wi.heap.size ≠ vE.ownBlock := fun e => by have h1 : wi.heap.size < wi.heap.size := h.rE.1 _ e.symm; omega
 exact ⟨(cell_grown' (by exact hh) hg hne).trans h.e0, (frozen_grown (by exact hh) hg hne).trans h.f0⟩
theorem Hg.putE {wi W W' : World} {vE vU vJ v' : Value} {LE : List ByteArray} {LU : List S47} {LJ : List (List Int)} {LE' : List ByteArray} (h : Hg wi vE vU vJ LE LU LJ W) (hr : Kd.string.R 9 W' (wi.heap.size + 1) (fun k => wi.heap.size < k) v' LE') (hg : W.grownBy W' vE.ownBlock) :
  Hg wi v' vU vJ LE' LU LJ (W'.setCell ⟨wi.heap.size, 0, none⟩ v') := by
 have hh : wi.heap.size < W.heap.size := World.block_lt_of_cell? _ _ h.e0
 have hne : some wi.heap.size ≠ vE.ownBlock := fun e => by have h1 : wi.heap.size < wi.heap.size := h.rE.1 _ e.symm; omega
 have hb : Below wi.heap.size wi W' := h.bel.grown hg h.bel.size (fun k hk => Nat.le_of_lt (h.rE.1 k hk))
 have hm := h.midE hg
 exact
 {bel := hb.setCell (Nat.le_refl _) _
  e0 := World.cell?_setCell_same _ _ _ hm.1
  e1 := (World.cell?_setCell_other _ _ _ _ (by intro e2; injection e2 with _ e2 _; omega)).trans ((cell_grown' (by exact hh) hg hne).trans h.e1)
  e2 := (World.cell?_setCell_other _ _ _ _ (by intro e2; injection e2 with _ e2 _; omega)).trans ((cell_grown' (by exact hh) hg hne).trans h.e2)
  f0 := by rw [World.frozen?_setCell]; exact (frozen_grown (by exact hh) hg hne).trans h.f0
  f1 := by rw [World.frozen?_setCell]; exact (frozen_grown (by exact hh) hg hne).trans h.f1
  f2 := by rw [World.frozen?_setCell]; exact (frozen_grown (by exact hh) hg hne).trans h.f2
  rE := Kd.R_far hr (fun k hk => Nat.ne_of_gt hk) _
  rU := Kd.R_far (Kd.R_over h.rU h.rE (by decide) hg) (fun k hk => Nat.ne_of_gt hk) _
  rJ := Kd.R_far (Kd.R_over h.rJ h.rE (by decide) hg) (fun k hk => Nat.ne_of_gt hk) _ }
theorem Hg.midU {wi W W' : World} {vE vU vJ : Value} {LE : List ByteArray} {LU : List S47} {LJ : List (List Int)} (h : Hg wi vE vU vJ LE LU LJ W) (hg : W.grownBy W' vU.ownBlock) :
  W'.cell? ⟨wi.heap.size, 1, none⟩ = some vU ∧ W'.frozen? ⟨wi.heap.size, 1, none⟩ = false := by
 have hh : wi.heap.size < W.heap.size := World.block_lt_of_cell? _ _ h.e1
 have hne : some wi.heap.size ≠ vU.ownBlock := fun e => by have h1 : wi.heap.size < wi.heap.size := h.rU.1 _ e.symm; omega
 exact ⟨(cell_grown' (by exact hh) hg hne).trans h.e1, (frozen_grown (by exact hh) hg hne).trans h.f1⟩
theorem Hg.putU {wi W W' : World} {vE vU vJ v' : Value} {LE : List ByteArray} {LU : List S47} {LJ : List (List Int)} {LU' : List S47} (h : Hg wi vE vU vJ LE LU LJ W) (hr : k47.R 47 W' (wi.heap.size + 1) (fun k => wi.heap.size < k) v' LU') (hg : W.grownBy W' vU.ownBlock) :
  Hg wi vE v' vJ LE LU' LJ (W'.setCell ⟨wi.heap.size, 1, none⟩ v') := by
 have hh : wi.heap.size < W.heap.size := World.block_lt_of_cell? _ _ h.e1
 have hne : some wi.heap.size ≠ vU.ownBlock := fun e => by have h1 : wi.heap.size < wi.heap.size := h.rU.1 _ e.symm; omega
 have hb : Below wi.heap.size wi W' := h.bel.grown hg h.bel.size (fun k hk => Nat.le_of_lt (h.rU.1 k hk))
 have hm := h.midU hg
 exact
 {bel := hb.setCell (Nat.le_refl _) _
  e0 := (World.cell?_setCell_other _ _ _ _ (by intro e2; injection e2 with _ e2 _; omega)).trans ((cell_grown' (by exact hh) hg hne).trans h.e0)
  e1 := World.cell?_setCell_same _ _ _ hm.1
  e2 := (World.cell?_setCell_other _ _ _ _ (by intro e2; injection e2 with _ e2 _; omega)).trans ((cell_grown' (by exact hh) hg hne).trans h.e2)
  f0 := by rw [World.frozen?_setCell]; exact (frozen_grown (by exact hh) hg hne).trans h.f0
  f1 := by rw [World.frozen?_setCell]; exact (frozen_grown (by exact hh) hg hne).trans h.f1
  f2 := by rw [World.frozen?_setCell]; exact (frozen_grown (by exact hh) hg hne).trans h.f2
  rE := Kd.R_far (Kd.R_over h.rE h.rU (by decide) hg) (fun k hk => Nat.ne_of_gt hk) _
  rU := Kd.R_far hr (fun k hk => Nat.ne_of_gt hk) _
  rJ := Kd.R_far (Kd.R_over h.rJ h.rU (by decide) hg) (fun k hk => Nat.ne_of_gt hk) _ }
theorem Hg.midJ {wi W W' : World} {vE vU vJ : Value} {LE : List ByteArray} {LU : List S47} {LJ : List (List Int)} (h : Hg wi vE vU vJ LE LU LJ W) (hg : W.grownBy W' vJ.ownBlock) :
  W'.cell? ⟨wi.heap.size, 2, none⟩ = some vJ ∧ W'.frozen? ⟨wi.heap.size, 2, none⟩ = false := by
 have hh : wi.heap.size < W.heap.size := World.block_lt_of_cell? _ _ h.e2
 have hne : some wi.heap.size ≠ vJ.ownBlock := fun e => by have h1 : wi.heap.size < wi.heap.size := h.rJ.1 _ e.symm; omega
 exact ⟨(cell_grown' (by exact hh) hg hne).trans h.e2, (frozen_grown (by exact hh) hg hne).trans h.f2⟩
theorem Hg.putJ {wi W W' : World} {vE vU vJ v' : Value} {LE : List ByteArray} {LU : List S47} {LJ : List (List Int)} {LJ' : List (List Int)} (h : Hg wi vE vU vJ LE LU LJ W) (hr : (Kd.slice 3 (Kd.int .i64)).R 31 W' (wi.heap.size + 1) (fun k => wi.heap.size < k) v' LJ') (hg : W.grownBy W' vJ.ownBlock) :
  Hg wi vE vU v' LE LU LJ' (W'.setCell ⟨wi.heap.size, 2, none⟩ v') := by
 have hh : wi.heap.size < W.heap.size := World.block_lt_of_cell? _ _ h.e2
 have hne : some wi.heap.size ≠ vJ.ownBlock := fun e => by have h1 : wi.heap.size < wi.heap.size := h.rJ.1 _ e.symm; omega
 have hb : Below wi.heap.size wi W' := h.bel.grown hg h.bel.size (fun k hk => Nat.le_of_lt (h.rJ.1 k hk))
 have hm := h.midJ hg
 exact
 {bel := hb.setCell (Nat.le_refl _) _
  e0 := (World.cell?_setCell_other _ _ _ _ (by intro e2; injection e2 with _ e2 _; omega)).trans ((cell_grown' (by exact hh) hg hne).trans h.e0)
  e1 := (World.cell?_setCell_other _ _ _ _ (by intro e2; injection e2 with _ e2 _; omega)).trans ((cell_grown' (by exact hh) hg hne).trans h.e1)
  e2 := World.cell?_setCell_same _ _ _ hm.1
  f0 := by rw [World.frozen?_setCell]; exact (frozen_grown (by exact hh) hg hne).trans h.f0
  f1 := by rw [World.frozen?_setCell]; exact (frozen_grown (by exact hh) hg hne).trans h.f1
  f2 := by rw [World.frozen?_setCell]; exact (frozen_grown (by exact hh) hg hne).trans h.f2
  rE := Kd.R_far (Kd.R_over h.rE h.rJ (by decide) hg) (fun k hk => Nat.ne_of_gt hk) _
  rU := Kd.R_far (Kd.R_over h.rU h.rJ (by decide) hg) (fun k hk => Nat.ne_of_gt hk) _
  rJ := Kd.R_far hr (fun k hk => Nat.ne_of_gt hk) _ }
theorem ints_app {l k : List Nat} : ints (l ++ k) = ints l ++ ints k := by simp [ints]
section
variable {E : List ByteArray} {U : List S47} {J : List (List Int)} {Y : List Int}
variable {A0 : Option Addr} {c0 : Nat} {A1 : Option Addr} {c1 : Nat} {A2 : Option Addr} {c2 : Nat} {AY : Option Addr} {cY : Nat} {w : World}
set_option maxRecDepth 100000 in
set_option maxHeartbeats 8000000 in
theorem c_BltAny (h0 : Kd.C Kd.string w A0 E.length E) (hc0 : E.length ≤ c0) (h1 : Kd.C k47 w A1 U.length U) (hc1 : U.length ≤ c1)
  (h2 : Kd.C (Kd.slice 3 (Kd.int .i64)) w A2 J.length J) (hc2 : J.length ≤ c2) (hY : Kd.C (Kd.int .u8) w AY Y.length Y) (hY2 : ∀ j : Nat, j < Y.length → 0 ≤ rd Y j ∧ rd Y j ≤ 255) :
  Calls Try.prog 5 #[.agg #[.slice A0 E.length c0, .slice A1 U.length c1, .slice A2 J.length c2], .slice AY Y.length cY] w fun e w' => e = .returned (.bool true) ∧ Below w.heap.size w w' := by
 have hb1 : Below w.heap.size w (w.alloc (.cells #[.slice A0 E.length c0, .slice A1 U.length c1, .slice A2 J.length c2] 26)) := (Below.refl _ _).alloc (Nat.le_refl _) _
 have hsv := c_solved (c0 := c0) (c1 := c1) (c2 := c2) (Kd.C_below h0 hb1) hc0 (Kd.C_below h1 hb1) hc1 (Kd.C_below h2 hb1) hc2
 have HC := Lib.hid hsv
 have HG := Lib.hid (And.intro h0 (And.intro hc0 (And.intro h1 (And.intro hc1 (And.intro h2 hc2)))))
 have HYY := Lib.hid (And.intro hY hY2)
 have hmxY := Kd.C_max hY
 have HB := Lib.hid hb1
 have hu26 := Try.underlying26
 have hu42 := Try.underlying42
 have hu47 := Try.underlying47
 have hu45 := Try.underlying45
 have hu31 := Try.underlying31
 have hs1 : (w.alloc (.cells #[.slice A0 E.length c0, .slice A1 U.length c1, .slice A2 J.length c2] 26)).heap.size = w.heap.size + 1 := by simp
 have HS := Lib.hid hs1
 clear h0 hc0 h1 hc1 h2 hc2 hb1 hsv hs1 hY hY2
 go_enter Try.func5, Try.ntmps5
 go_wp2_with fail
 refine HC.out.mono ?_
 rintro ex w2 ⟨hb2, hor⟩
 rw [HS.out] at hb2
 have hcell : ∀ (i : Nat) (v : Value), #[Value.slice A0 E.length c0, .slice A1 U.length c1, .slice A2 J.length c2][i]? = some v → w2.cell? ⟨w.heap.size, i, none⟩ = some v := fun i v hv => (hb2.cell (by exact Nat.lt_succ_self _)).trans (by rw [World.cell?_alloc_at _ _ _ _ rfl]; exact hv)
 have g0 := hcell 0 _ rfl
 have g1 := hcell 1 _ rfl
 have g2 := hcell 2 _ rfl
 have HX := Lib.hid (HB.out.trans (hb2.mono (Nat.le_succ _)))
 clear hb2 hcell
 rcases hor with rfl | ⟨m, A, c, hs, rfl, hc, hC⟩
 ·go_wp2_with fail
  refine c_awake.mono ?_
  rintro ex w3 ⟨rfl, hb3⟩
  have HX3 := Lib.hid (HX.out.trans (hb3.mono HX.out.size))
  clear hb3
  go_wp2_with fail
  go_ret
  exact ⟨rfl, HX3.out⟩
 ·obtain ⟨n, hn⟩ : ∃ n, n = E.length := ⟨_, rfl⟩
  have hUn : U.length = n := by rw [hn]; exact hs.has.1.symm
  have hJn : J.length = n := by rw [hn]; exact hs.valid.len
  have hn14 : n ≤ 14 := by rw [hn]; exact hs.small
  obtain ⟨bl, hbl⟩ : ∃ bl, bl = blocksB E.length (ndB J m) := ⟨_, rfl⟩
  rw [← hbl] at hC ⊢
  have HV := Lib.hid (And.intro hs (And.intro hn (And.intro hUn (And.intro hJn (And.intro hbl hC)))))
  rw [hUn] at g1
  rw [← hn] at g0
  rw [hJn] at g2
  have HGX := Lib.hid (And.intro g0 (And.intro g1 g2))
  clear hs hc hC hn hUn hJn hbl
  go_wp2_with fail
  go_loopw [10, 8] (fun v v8 W => ∃ i : Nat, v = .int .i64 i ∧ i ≤ n ∧ Below w2.heap.size w2 W ∧ Kd.R (Kd.int .i64) 3 W w2.heap.size (fun _ => True) v8 (ints (List.range i))) (fun v _ _ => n - (intOf v).toNat)
  case atStart => exact ⟨0, rfl, Nat.zero_le _, Below.refl _ _, Kd.R_nil _ _ _ _ _⟩
  case round =>
   obtain ⟨i, rfl, hi, hbw, hR⟩ := hrel
   obtain ⟨wi, rfl⟩ : ∃ x, x = wr := ⟨_, rfl⟩
   obtain ⟨Ax, cx, rfl⟩ := Kd.R_slice hR
   rw [ints_len, List.length_range] at hR ⊢
   have HR := Lib.hid (And.intro hbw hR)
   clear hbw hR
   by_cases hil : i < n
   ·as_aux_lemma =>
     have hil' : (i : Int) < (n : Int) := by omega
     go_wp2_with (at_builtin; go_must (refine Kd.R_append (Kd.int .i64) (w0 := wi) w2.heap.size rfl (.tmp 43) (.tmp 45) 31 3 (.int .i64 0) 8 rfl Try.underlying31 info3 rfl (by decide) (by decide) (.slice Ax i cx) (ints (List.range i)) (i : Int) [.int .i64 (i : Int)] (fun _ => True) (fun _ => False) rfl rfl rfl (fun _ hk => hk.elim) (fun _ _ => trivial) HR.out.2 (Below.refl _ _) HR.out.1.size (by rw [ints_len, List.length_range]; omega) ?_); intro v7 w7 hr7 hb7 hg7 hat7; have HY := Lib.hid (And.intro hr7 hb7); clear hr7 hb7 hg7 hat7)
     refine ⟨⟨i + 1, by rw [Int.natCast_add]; rfl, by omega, HR.out.1.trans HY.out.2, ?_⟩, by simp [intOf]; omega⟩
     rw [List.range_succ, ints_app]
     exact HY.out.1
   ·have hil' : ¬ (i : Int) < (n : Int) := by omega
    obtain rfl : n = i := by omega
    clear hi hil
    have HRA := Lib.hid HR.out
    clear HR
    go_wp2_with fail
    go_loopw [11, 8, 9] (fun v v8 v9 W => ∃ (i : Nat) (Lf At : List Nat), v = .int .i64 i ∧ i ≤ n ∧ Below w2.heap.size w2 W ∧ Kd.R (Kd.int .i64) 3 W w2.heap.size (fun _ => True) v8 (ints Lf) ∧ Kd.R (Kd.int .i64) 3 W w2.heap.size (fun _ => True) v9 (ints At) ∧ Two v8 v9 ∧ (At ++ Lf).Perm (List.range n) ∧ At.length = i) (fun v _ _ _ => n - (intOf v).toNat)
    case atStart => exact ⟨0, List.range n, [], rfl, Nat.zero_le _, HRA.out.1, HRA.out.2, Kd.R_nil _ _ _ _ _, fun k hk h => by simp [Value.ownBlock] at h, List.Perm.refl _, rfl⟩
    case round =>
     obtain ⟨i, Lf, At, rfl, hi, hbw, hR8, hR9, htw, hp, hal⟩ := hrel
     obtain ⟨wi, rfl⟩ : ∃ x, x = wr := ⟨_, rfl⟩
     obtain ⟨Ax, cx, rfl⟩ := Kd.R_slice hR8
     obtain ⟨Aa, ca, rfl⟩ := Kd.R_slice hR9
     obtain ⟨L, hL⟩ : ∃ L, L = Lf.length := ⟨_, rfl⟩
     have hLn : L + i = n := by
      have := hp.length_eq
      rw [List.length_append, List.length_range, hal, ← hL] at this
      omega
     rw [ints_len, ← hL] at hR8 htw ⊢
     rw [ints_len, hal] at hR9 htw ⊢
     have hr8 := Kd.R_reads' hR8
     have hcx := hr8.2.1
     have HR := Lib.hid (And.intro hbw (And.intro hR8 (And.intro hR9 (And.intro htw (And.intro hp (And.intro hal hL))))))
     have HR8 := Lib.hid hr8.2.2
     clear hbw hR8 hR9 htw hp hal hL hr8
     by_cases hil : i < n
     ·have hil' : (i : Int) < (n : Int) := by omega
      have hi0 : (0 : Int) ≤ (i : Int) := by omega
      have hL0 : 0 < L := by omega
      have hL0' : ¬ (L : Int) = 0 := by omega
      have hLz : ((L : Int) == 0) = false := beq_eq_false_iff_ne.2 (by omega)
      go_upto_if 55 with fail
      go_cut [12] (fun v W => ∃ k : Nat, v = .int .i64 k ∧ k < L ∧ W = wi)
      case first =>
       by_cases hiY : i < Y.length
       ·have hiY' : (i : Int) < (Y.length : Int) := by omega
        obtain ⟨aY, hAY, hy⟩ := Kd.at_int (Kd.C_below (Kd.C_below HYY.out.1 HX.out) HR.out.1) (i : Int) hi0 hiY'
        have hyb := HYY.out.2 i hiY
        rw [Int.toNat_natCast] at hy
        obtain ⟨x, hx⟩ : ∃ x, x = rd Y i := ⟨_, rfl⟩
        rw [← hx] at hy hyb
        have hx0 := hyb.1
        have hx1 := hyb.2
        subst hAY
        obtain ⟨k, hk⟩ : ∃ k : Nat, k = x.toNat % L := ⟨_, rfl⟩
        have hkL : k < L := by rw [hk]; exact Nat.mod_lt _ hL0
        have hmod : x % (L : Int) = (k : Int) := by
         rw [hk, Int.natCast_emod, Int.toNat_of_nonneg hx0]
        clear hx hk hyb
        go_wp2_with fail
        go_meet
        exact ⟨k, rfl, hkL, rfl⟩
       ·have hiY' : ¬ (i : Int) < (Y.length : Int) := by omega
        go_wp2_with fail
        go_meet
        exact ⟨0, rfl, hL0, rfl⟩
      case rest =>
       obtain ⟨k, rfl, hkL, rfl⟩ := hcut
       have hk0 : (0 : Int) ≤ (k : Int) := by omega
       have hkL' : (k : Int) < (L : Int) := by omega
       have hlL : (ints Lf).length = L := by rw [ints_len]; exact HR.out.2.2.2.2.2.2.symm
       have hC8 : Kd.C (Kd.int .i64) wc Ax L (ints Lf) := by have h9 := HR8.out; rw [hlL] at h9; exact h9
       obtain ⟨ax, hAx, z7⟩ := Kd.at_int hC8 (k : Int) hk0 hkL'
       subst hAx
       rw [Int.toNat_natCast, rd_int] at z7
       obtain ⟨x, hx⟩ : ∃ x, x = Lf.getD k 0 := ⟨_, rfl⟩
       rw [← hx] at z7
       have hw2 := HR.out.1.size
       have HXX := Lib.hid (And.intro hx hlL)
       clear hx hlL hC8
       by_cases hck : cx = k + 1
       ·as_aux_lemma =>
         go_wp2_with (at_builtin; first
         | (refine Kd.R_append (Kd.int .i64) (w0 := wc) w2.heap.size rfl (.tmp 64) (.tmp 69) 31 3 (.int .i64 0) 8 rfl Try.underlying31 info3 rfl (by decide) (by decide) (.slice Aa i ca) (ints At) (x : Int) [.int .i64 (x : Int)] (fun _ => True) (fun _ => False) rfl rfl rfl (fun _ hk => hk.elim) (fun _ _ => trivial) HR.out.2.2.1 (Below.refl _ _) HR.out.1.size (by rw [ints_len, HR.out.2.2.2.2.2.1]; omega) ?_; intro v7 w7 hr7 hb7 hg7 hat7; have HY1 := Lib.hid (And.intro hr7 (And.intro hb7 (And.intro hg7 (And.intro hat7 (R_past HR.out.2.1 HR.out.2.2.2.1 hg7))))); clear hr7 hb7 hg7 hat7)
         | (refine Kd.R_append_row (Value.int .i64) (0 : Int) (h1 := fun _ => rfl) (w0 := w7) w2.heap.size rfl (.tmp 71) (.tmp 74) 31 3 (.int .i64 0) 8 rfl Try.underlying31 info3 rfl (by decide) (.slice none 0 0) [] (ints (Lf.take k)) (some ax) k _ (fun _ => True) rfl rfl (fun _ _ => trivial) (Kd.R_nil _ _ _ _ _) ?hC (Below.refl _ _) (by have := HY1.out.2.1.size; omega) (by simp; omega) ?_; (case hC => exact C_takeN (Kd.R_reads' HY1.out.2.2.2.2).2.2 (by rw [← HR.out.2.2.2.2.2.2]; omega)); intro v8 w8 hr8 hb8 hg8 hat8; obtain ⟨A8, c8, rfl⟩ := Kd.R_slice hr8; rw [show (([] : List Int) ++ ints (Lf.take k)).length = k by rw [List.nil_append, ints_len, List.length_take, ← HR.out.2.2.2.2.2.2]; omega] at hr8 hat8 ⊢; have HY2 := Lib.hid (And.intro hr8 (And.intro hb8 (And.intro hg8 (And.intro hat8 (R_past HY1.out.2.2.2.2 Two.nil hg8))))); clear hr8 hb8 hg8 hat8)
         | (refine Kd.R_append_row (Value.int .i64) (0 : Int) (h1 := fun _ => rfl) (w0 := w8) w2.heap.size rfl (.tmp 76) (.tmp 80) 31 3 (.int .i64 0) 8 rfl Try.underlying31 info3 rfl (by decide) (.slice A8 k c8) (ints (Lf.take k)) (ints (Lf.drop (k + 1))) _ (L - (k + 1)) _ (fun _ => True) rfl rfl (fun _ _ => trivial) HY2.out.1 ?hC (Below.refl _ _) (by have := HY2.out.2.1.size; have := HY1.out.2.1.size; omega) (by rw [ints_len, List.length_take]; omega) ?_; (case hC => have hd := C_dropN (k := k + 1) (c := cx) (Kd.R_reads' HY2.out.2.2.2.2).2.2 (by rw [← HR.out.2.2.2.2.2.2]; omega) (by rw [← HR.out.2.2.2.2.2.2]; exact hcx); rw [← HR.out.2.2.2.2.2.2] at hd; first | (rw [if_pos hck] at hd; exact hd) | (rw [if_neg hck] at hd; exact hd)); intro v9 w9 hr9 hb9 hg9 hat9; have HY3 := Lib.hid (And.intro hr9 (And.intro hb9 (And.intro hg9 hat9))); clear hr9 hb9 hg9 hat9))
         have htw78 : Two v7 (.slice A8 k c8) := fun q hq hq8 => by
          have h1 := Kd.R_lt HY1.out.1 q hq
          rcases HY2.out.2.2.2.1 with h | ⟨b, h, hb⟩
          ·rw [hq8] at h; simp [Value.ownBlock] at h
          ·rw [h] at hq8; injection hq8 with hq8; omega
         have hR78 := R_past HY1.out.1 (Two.nil (v := v7)) HY2.out.2.2.1
         refine ⟨⟨i + 1, Lf.take k ++ Lf.drop (k + 1), At ++ [x], by rw [Int.natCast_add]; rfl, by omega, ((HR.out.1.trans HY1.out.2.1).trans HY2.out.2.1).trans HY3.out.2.1, by rw [ints_app]; exact HY3.out.1, by rw [ints_app]; exact R_past hR78 htw78 HY3.out.2.2.1, Two.grow (Two.symm htw78) hR78 HY3.out.2.2.2, ?_, by rw [List.length_append, HR.out.2.2.2.2.2.1]; rfl⟩, by simp [intOf]; omega⟩
         exact pick_perm HR.out.2.2.2.2.1 (by rw [← HR.out.2.2.2.2.2.2]; exact hkL) HXX.out.1
       ·as_aux_lemma =>
         go_wp2_with (at_builtin; first
         | (refine Kd.R_append (Kd.int .i64) (w0 := wc) w2.heap.size rfl (.tmp 64) (.tmp 69) 31 3 (.int .i64 0) 8 rfl Try.underlying31 info3 rfl (by decide) (by decide) (.slice Aa i ca) (ints At) (x : Int) [.int .i64 (x : Int)] (fun _ => True) (fun _ => False) rfl rfl rfl (fun _ hk => hk.elim) (fun _ _ => trivial) HR.out.2.2.1 (Below.refl _ _) HR.out.1.size (by rw [ints_len, HR.out.2.2.2.2.2.1]; omega) ?_; intro v7 w7 hr7 hb7 hg7 hat7; have HY1 := Lib.hid (And.intro hr7 (And.intro hb7 (And.intro hg7 (And.intro hat7 (R_past HR.out.2.1 HR.out.2.2.2.1 hg7))))); clear hr7 hb7 hg7 hat7)
         | (refine Kd.R_append_row (Value.int .i64) (0 : Int) (h1 := fun _ => rfl) (w0 := w7) w2.heap.size rfl (.tmp 71) (.tmp 74) 31 3 (.int .i64 0) 8 rfl Try.underlying31 info3 rfl (by decide) (.slice none 0 0) [] (ints (Lf.take k)) (some ax) k _ (fun _ => True) rfl rfl (fun _ _ => trivial) (Kd.R_nil _ _ _ _ _) ?hC (Below.refl _ _) (by have := HY1.out.2.1.size; omega) (by simp; omega) ?_; (case hC => exact C_takeN (Kd.R_reads' HY1.out.2.2.2.2).2.2 (by rw [← HR.out.2.2.2.2.2.2]; omega)); intro v8 w8 hr8 hb8 hg8 hat8; obtain ⟨A8, c8, rfl⟩ := Kd.R_slice hr8; rw [show (([] : List Int) ++ ints (Lf.take k)).length = k by rw [List.nil_append, ints_len, List.length_take, ← HR.out.2.2.2.2.2.2]; omega] at hr8 hat8 ⊢; have HY2 := Lib.hid (And.intro hr8 (And.intro hb8 (And.intro hg8 (And.intro hat8 (R_past HY1.out.2.2.2.2 Two.nil hg8))))); clear hr8 hb8 hg8 hat8)
         | (refine Kd.R_append_row (Value.int .i64) (0 : Int) (h1 := fun _ => rfl) (w0 := w8) w2.heap.size rfl (.tmp 76) (.tmp 80) 31 3 (.int .i64 0) 8 rfl Try.underlying31 info3 rfl (by decide) (.slice A8 k c8) (ints (Lf.take k)) (ints (Lf.drop (k + 1))) _ (L - (k + 1)) _ (fun _ => True) rfl rfl (fun _ _ => trivial) HY2.out.1 ?hC (Below.refl _ _) (by have := HY2.out.2.1.size; have := HY1.out.2.1.size; omega) (by rw [ints_len, List.length_take]; omega) ?_; (case hC => have hd := C_dropN (k := k + 1) (c := cx) (Kd.R_reads' HY2.out.2.2.2.2).2.2 (by rw [← HR.out.2.2.2.2.2.2]; omega) (by rw [← HR.out.2.2.2.2.2.2]; exact hcx); rw [← HR.out.2.2.2.2.2.2] at hd; first | (rw [if_pos hck] at hd; exact hd) | (rw [if_neg hck] at hd; exact hd)); intro v9 w9 hr9 hb9 hg9 hat9; have HY3 := Lib.hid (And.intro hr9 (And.intro hb9 (And.intro hg9 hat9))); clear hr9 hb9 hg9 hat9))
         have htw78 : Two v7 (.slice A8 k c8) := fun q hq hq8 => by
          have h1 := Kd.R_lt HY1.out.1 q hq
          rcases HY2.out.2.2.2.1 with h | ⟨b, h, hb⟩
          ·rw [hq8] at h; simp [Value.ownBlock] at h
          ·rw [h] at hq8; injection hq8 with hq8; omega
         have hR78 := R_past HY1.out.1 (Two.nil (v := v7)) HY2.out.2.2.1
         refine ⟨⟨i + 1, Lf.take k ++ Lf.drop (k + 1), At ++ [x], by rw [Int.natCast_add]; rfl, by omega, ((HR.out.1.trans HY1.out.2.1).trans HY2.out.2.1).trans HY3.out.2.1, by rw [ints_app]; exact HY3.out.1, by rw [ints_app]; exact R_past hR78 htw78 HY3.out.2.2.1, Two.grow (Two.symm htw78) hR78 HY3.out.2.2.2, ?_, by rw [List.length_append, HR.out.2.2.2.2.2.1]; rfl⟩, by simp [intOf]; omega⟩
         exact pick_perm HR.out.2.2.2.2.1 (by rw [← HR.out.2.2.2.2.2.2]; exact hkL) HXX.out.1
     ·have hil' : ¬ (i : Int) < (n : Int) := by omega
      obtain rfl : n = i := by omega
      have hLf : Lf = [] := List.eq_nil_of_length_eq_zero (by rw [← HR.out.2.2.2.2.2.2]; omega)
      have hpA : At.Perm (List.range n) := by
       have h9 := HR.out.2.2.2.2.1
       rw [hLf, List.append_nil] at h9
       exact h9
      have hrA := Kd.R_reads' HR.out.2.2.1
      rw [ints_len, HR.out.2.2.2.2.2.1] at hrA
      have hb2i := HR.out.1
      have hatn := HR.out.2.2.2.2.2.1
      have HA := Lib.hid (And.intro hb2i (And.intro hpA (And.intro hrA.2.2 hatn)))
      clear HR HR8 hrA hpA hLf hLn hcx hi hil HRA hb2i hatn
      go_wp2_with fail
      obtain ⟨w5, hw5⟩ : ∃ w5, w5 = wi.alloc (.cells #[.slice none 0 0, .slice none 0 0, .slice none 0 0] 26) := ⟨_, rfl⟩
      rw [← hw5]
      have HH0 : Hg wi (.slice none 0 0) (.slice none 0 0) (.slice none 0 0) [] [] [] w5 := by rw [hw5]; exact Hg.new wi
      have HH := Lib.hid HH0
      clear hw5 HH0
      have hsi : w2.heap.size ≤ wi.heap.size := HA.out.1.size
      go_loopw [15] (fun v W => ∃ (i : Nat) (vU : Value), v = .int .i64 i ∧ i ≤ n ∧ Hg wi (.slice none 0 0) vU (.slice none 0 0) [] (UH i) [] W) (fun v _ => n - (intOf v).toNat)
      case atStart => exact ⟨0, .slice none 0 0, rfl, Nat.zero_le _, HH.out⟩
      case round =>
       obtain ⟨i, vU, rfl, hi, hH⟩ := hrel
       obtain ⟨wu, rfl⟩ : ∃ x, x = wr := ⟨_, rfl⟩
       obtain ⟨Au, cu, rfl⟩ := Kd.R_slice hH.rU
       have hul : (UH i).length = i := UH_len
       rw [hul] at hH
       have q1 := hH.e1
       have qf := hH.f1
       have hhere : wi.heap.size < wu.heap.size := World.block_lt_of_cell? _ _ q1
       have HQ := Lib.hid (And.intro hH hul)
       clear hH hul
       by_cases hil : i < n
       ·have hil' : (i : Int) < (n : Int) := by omega
        have hwr : IntKind.u8.wrap (97 + (i : Int)) = 97 + (i : Int) := by rw [IntKind.wrap_u8]; omega
        obtain ⟨s, hs⟩ : ∃ s, s = chr (UInt8.ofNat (97 + i)) := ⟨_, rfl⟩
        have hcv : (convert 45 9 (.slice (some ⟨wu.heap.size, 0, none⟩) 1 1)).run Try.prog (wu.alloc (.cells #[.int .u8 (97 + (i : Int))] 5)) = .ok (.string s) (wu.alloc (.cells #[.int .u8 (97 + (i : Int))] 5)) := by
         rw [hs]; exact conv_chr wu i
        have hss : s.size = 1 := by rw [hs]; rfl
        have HSS := Lib.hid hs
        clear hs
        have HWA := Lib.hid (HQ.out.1.below (below_alloc (Below.refl wu.heap.size wu) (.cells #[.int .u8 (97 + (i : Int))] 5)))
        have hsz2 : (wu.alloc (.cells #[.int .u8 (97 + (i : Int))] 5)).heap.size = wu.heap.size + 1 := by simp
        go_wp2_with (at_builtin; go_loud (refine Kd.R_append k47 (w0 := wu.alloc (.cells #[.int .u8 (97 + (i : Int))] 5)) (W := wu.alloc (.cells #[.int .u8 (97 + (i : Int))] 5)) (wi.heap.size + 1) rfl (.tmp 90) (.tmp 98) 23 47 (.agg #[.string ByteArray.empty, .int .i64 0, .bool false]) 32 rfl Try.underlying23 info47 rfl (by decide) (by decide) (.slice Au i cu) (UH i) (useH i) _ (fun k => wi.heap.size < k) (fun _ => False) ?hs ?hx ?hp (fun _ hk => hk.elim) ?hf HWA.out.rU (Below.refl _ _) ?hb ?hl ?_; (case hs => rfl); (case hx => exact Eq.trans (b := .slice (some ⟨wu.heap.size + 1, 0, none⟩) 1 1) rfl (by rw [hsz2])); (case hp => rw [HSS.out]; exact k47_mkM _ _ _ (useH i)); (case hf => intro k hk; have h1 : wu.heap.size + 1 ≤ k := Nat.le_trans (Nat.le_of_eq hsz2.symm) hk; exact Nat.lt_of_lt_of_le hhere (Nat.le_of_succ_le h1)); (case hb => rw [hsz2]; omega); (case hl => rw [HQ.out.2]; omega); intro v7 w7 hr7 hb7 hg7 hat7; rw [← UH_succ] at hr7; obtain ⟨A7, c7, rfl⟩ := Kd.R_slice hr7; have q1 := (HWA.out.midU hg7).1; have qf := (HWA.out.midU hg7).2; have HY := Lib.hid (HWA.out.putU hr7 hg7); clear hr7 hb7 hg7 hat7))
        exact ⟨⟨i + 1, _, by rw [Int.natCast_add]; rfl, by omega, HY.out⟩, by simp [intOf]; omega⟩
       ·have hil' : ¬ (i : Int) < (n : Int) := by omega
        obtain rfl : n = i := by omega
        have HU := Lib.hid HQ.out.1
        clear HQ hhere q1 qf hil hil' hi
        go_wp2_with fail
        go_loopw [16] (fun v W => ∃ (e : Nat) (vE vJ : Value), v = .int .i64 e ∧ e ≤ n ∧ Hg wi vE (.slice Au n cu) vJ (EH e) (UH n) ((JH J At n).take e) W) (fun v _ => n - (intOf v).toNat)
        case atStart => exact ⟨0, _, _, rfl, Nat.zero_le _, HU.out⟩
        case round =>
         obtain ⟨e, vE, vJ, rfl, he, hH⟩ := hrel
         obtain ⟨we, rfl⟩ : ∃ x, x = wr := ⟨_, rfl⟩
         obtain ⟨Ae, ce, rfl⟩ := Kd.R_slice hH.rE
         obtain ⟨Aj, cj, rfl⟩ := Kd.R_slice hH.rJ
         have hel : (EH e).length = e := EH_len
         have hjl : ((JH J At n).take e).length = e := by rw [List.length_take, JH_len]; omega
         rw [hel, hjl] at hH
         have q0 := hH.e0
         have qf0 := hH.f0
         have hhere : wi.heap.size < we.heap.size := World.block_lt_of_cell? _ _ q0
         have k0 : we.cell? ⟨w.heap.size, 0, none⟩ = some (.slice A0 n c0) := pw_cell_below hH.bel (pw_cell_below HA.out.1 HGX.out.1)
         have HQ := Lib.hid (And.intro hH (And.intro hel hjl))
         clear hH hel hjl
         by_cases hen : e < n
         ·have hen' : (e : Int) < (n : Int) := by omega
          have he0 : (0 : Int) ≤ (e : Int) := by omega
          have hwr : IntKind.u8.wrap (97 + (e : Int)) = 97 + (e : Int) := by rw [IntKind.wrap_u8]; omega
          obtain ⟨s, hs⟩ : ∃ s, s = chr (UInt8.ofNat (97 + e)) := ⟨_, rfl⟩
          have hcv : (convert 45 9 (.slice (some ⟨we.heap.size, 0, none⟩) 1 1)).run Try.prog (we.alloc (.cells #[.int .u8 (97 + (e : Int))] 5)) = .ok (.string s) (we.alloc (.cells #[.int .u8 (97 + (e : Int))] 5)) := by
           rw [hs]; exact conv_chr we e
          have hss : s.size = 1 := by rw [hs]; rfl
          have HSS := Lib.hid hs
          clear hs
          have HWA := Lib.hid (HQ.out.1.below (below_alloc (Below.refl we.heap.size we) (.cells #[.int .u8 (97 + (e : Int))] 5)))
          have hsz2 : (we.alloc (.cells #[.int .u8 (97 + (e : Int))] 5)).heap.size = we.heap.size + 1 := by simp
          go_upto_region 30 with (at_builtin; go_loud (refine Kd.R_append Kd.string (w0 := we.alloc (.cells #[.int .u8 (97 + (e : Int))] 5)) (W := we.alloc (.cells #[.int .u8 (97 + (e : Int))] 5)) (wi.heap.size + 1) rfl (.tmp 109) (.tmp 116) 22 9 (.string ByteArray.empty) 16 rfl Try.underlying22 info9 rfl (by decide) (by decide) (.slice Ae e ce) (EH e) (nmC 102 e) _ (fun k => wi.heap.size < k) (fun _ => False) ?hs ?hx ?hp (fun _ hk => hk.elim) ?hf HWA.out.rE (Below.refl _ _) ?hb ?hl ?_; (case hs => rfl); (case hx => exact Eq.trans (b := .slice (some ⟨we.heap.size + 1, 0, none⟩) 1 1) rfl (by rw [hsz2])); (case hp => rw [HSS.out]; rfl); (case hf => intro k hk; have h1 : we.heap.size + 1 ≤ k := Nat.le_trans (Nat.le_of_eq hsz2.symm) hk; exact Nat.lt_of_lt_of_le hhere (Nat.le_of_succ_le h1)); (case hb => rw [hsz2]; omega); (case hl => rw [HQ.out.2.1]; omega); intro v7 w7 hr7 hb7 hg7 hat7; rw [← EH_succ] at hr7; obtain ⟨A7, c7, rfl⟩ := Kd.R_slice hr7; have q1 := (HWA.out.midE hg7).1; have qf := (HWA.out.midE hg7).2; have HY := Lib.hid (HWA.out.putE hr7 hg7); clear hr7 hb7 hg7 hat7))
          obtain ⟨wo, hwo⟩ : ∃ x, x = w7.setCell ⟨wi.heap.size, 0, none⟩ (.slice A7 (EH (e + 1)).length c7) := ⟨_, rfl⟩
          have hY1 := HY.out
          rw [← hwo] at hY1 ⊢
          have HO := Lib.hid hY1
          have HJ2 := Lib.hid HQ.out.2.2
          have hho : wi.heap.size < wo.heap.size := World.block_lt_of_cell? _ _ hY1.e0
          clear hY1 hwo HY HWA HSS HQ q0 qf0 k0 q1 qf hcv hss hwr hsz2 hhere
          have ha2 : wo.cell? ⟨w.heap.size, 2, none⟩ = some (.slice A2 n c2) := pw_cell_below HO.out.bel (pw_cell_below HA.out.1 HGX.out.2.2)
          have hCJ := Kd.C_below (Kd.C_below (Kd.C_below HG.out.2.2.2.2.1 HX.out) HA.out.1) HO.out.bel
          rw [HV.out.2.2.2.1] at hCJ
          have hCA := Kd.C_below HA.out.2.2.1 HO.out.bel
          have HK := Lib.hid (And.intro ha2 (And.intro hCJ hCA))
          clear ha2 hCJ hCA
          go_wp2_with fail
          go_loopw [18, 17] (fun v v17 W => ∃ k : Nat, v = .int .i64 k ∧ k ≤ n ∧ Below wo.heap.size wo W ∧ Kd.R (Kd.int .i64) 3 W wo.heap.size (fun _ => True) v17 (ints (rowH J At k e))) (fun v _ _ => n - (intOf v).toNat)
          case atStart => exact ⟨0, rfl, Nat.zero_le _, Below.refl _ _, Kd.R_nil _ _ _ _ _⟩
          case round =>
           obtain ⟨k, rfl, hk, hbq, hR⟩ := hrel
           obtain ⟨wq, rfl⟩ : ∃ x, x = wr := ⟨_, rfl⟩
           obtain ⟨Ar, cr, rfl⟩ := Kd.R_slice hR
           obtain ⟨L, hL⟩ : ∃ L, L = (ints (rowH J At k e)).length := ⟨_, rfl⟩
           have hLk : L ≤ k := by rw [hL, ints_len]; exact rowH_len
           rw [← hL] at hR ⊢
           have HR := Lib.hid (And.intro hbq (And.intro hR hL))
           clear hbq hR hL
           by_cases hkn : k < n
           ·have hkn' : (k : Int) < (n : Int) := by omega
            have hk0 : (0 : Int) ≤ (k : Int) := by omega
            have a2 := pw_cell_below HR.out.1 HK.out.1
            obtain ⟨ad4, A4, c4, hA4, hc4, hl4, hC4⟩ := at_L4 (Kd.C_below HK.out.2.1 HR.out.1) (e : Int) he0 hen'
            subst hA4
            rw [Int.toNat_natCast] at hc4
            obtain ⟨ad5, hA5, hc5⟩ := Kd.at_int (Kd.C_below HK.out.2.2 HR.out.1) (k : Int) hk0 hkn'
            subst hA5
            rw [Int.toNat_natCast, rd_int] at hc5
            obtain ⟨x, hx⟩ : ∃ x, x = At.getD k 0 := ⟨_, rfl⟩
            rw [← hx] at hc5
            obtain ⟨l, hl⟩ : ∃ l, l = rd_L4 J (e : Int) := ⟨_, rfl⟩
            rw [← hl] at hc4 hC4 hl4
            have hmx4 := Kd.C_max hC4
            have HCL := Lib.hid (And.intro hC4 (And.intro hx hl))
            clear hC4 hx hl
            by_cases hin : (x : Int) ∈ l
            ·have hdc : decide ((x : Int) ∈ l) = true := decide_eq_true hin
             have hrow : rowH J At (k + 1) e = rowH J At k e ++ [k] := rowH_in (by rw [← HCL.out.2.1, ← HCL.out.2.2]; exact hin)
             have HD := Lib.hid (And.intro hdc hrow)
             clear hdc hrow hin
             go_wp2_with fail
             go_quiet ((go_at_call 14; refine (c_in (Kd.C_drewN HCL.out.1 _)).mono ?_; rintro e w' ⟨rfl, rfl⟩; rw [HD.out.1]; exact ⟨rfl, _, rfl⟩))
             go_wp2_with (at_builtin; go_loud (refine Kd.R_append (Kd.int .i64) wo.heap.size rfl (.tmp 134) (.tmp 136) 31 3 (.int .i64 0) 8 rfl Try.underlying31 info3 rfl (by decide) (by decide) (.slice Ar L cr) (ints (rowH J At k e)) (k : Int) _ (fun _ => True) (fun _ => False) rfl rfl rfl (fun _ hk => hk.elim) (fun _ _ => trivial) (Kd.R_drewN HR.out.2.1 _) (Below.refl _ _) HR.out.1.size (by rw [← HR.out.2.2]; omega) ?_; intro v7 w7 hr7 hb7 hg7 hat7; have HY1 := Lib.hid (And.intro hr7 hb7); clear hr7 hb7 hg7 hat7))
             exact ⟨⟨k + 1, by rw [Int.natCast_add]; rfl, by omega, (pw_below_drewN HR.out.1 _).trans HY1.out.2, by rw [HD.out.2, ints_app]; exact HY1.out.1⟩, by simp [intOf]; omega⟩
            ·have hdc : decide ((x : Int) ∈ l) = false := decide_eq_false hin
             have hrow : rowH J At (k + 1) e = rowH J At k e := rowH_out (by rw [← HCL.out.2.1, ← HCL.out.2.2]; exact hin)
             have HD := Lib.hid (And.intro hdc hrow)
             clear hdc hrow hin
             go_wp2_with fail
             go_quiet ((go_at_call 14; refine (c_in (Kd.C_drewN HCL.out.1 _)).mono ?_; rintro e w' ⟨rfl, rfl⟩; rw [HD.out.1]; exact ⟨rfl, _, rfl⟩))
             go_wp2_with fail
             exact ⟨⟨k + 1, by rw [Int.natCast_add]; rfl, by omega, pw_below_drewN HR.out.1 _, by rw [HD.out.2]; exact Kd.R_drewN HR.out.2.1 _⟩, by simp [intOf]; omega⟩
           ·have hkn' : ¬ (k : Int) < (n : Int) := by omega
            obtain rfl : n = k := by omega
            have hH3 := HO.out.below (HR.out.1.mono (Nat.le_refl _))
            have q2 := hH3.e2
            have qf2 := hH3.f2
            have hoq := HR.out.1.size
            have H3 := Lib.hid hH3
            have hjl : ((JH J At n).take e).length = e := HJ2.out
            obtain ⟨JT, hJT⟩ : ∃ x, x = (JH J At n).take (e + 1) := ⟨_, rfl⟩
            have HLR := Lib.hid (And.intro (hJT.trans (JH_take (J := J) (At := At) hen)) (And.intro hjl hJT))
            clear hJT hH3 hkn hkn' hjl hLk hk
            go_wp2_with (at_builtin; go_loud (refine Kd.R_append (Kd.slice 3 (Kd.int .i64)) (w0 := wq) (W := wq) (wi.heap.size + 1) rfl (.tmp 139) (.tmp 141) 24 31 (.slice none 0 0) 24 rfl Try.underlying24 info31 rfl (by decide) (by decide) (.slice Aj e cj) ((JH J At n).take e) (ints (rowH J At n e)) _ (fun k => wi.heap.size < k) (fun k => wo.heap.size ≤ k) rfl rfl ⟨_, rfl, Kd.R_lower (Kd.R_mono (Kd.R_bound HR.out.2.1) (fun k hk => hk.2.1)) (by omega)⟩ ?hok (fun k hk => by omega) H3.out.rJ (Below.refl _ _) (by omega) (by rw [HLR.out.2.1]; omega) ?_; (case hok => intro k hk; exact ⟨by omega, fun e1 => by have := Kd.R_lt HO.out.rJ k e1.symm; omega⟩); intro v7 w7 hr7 hb7 hg7 hat7; rw [← HLR.out.1] at hr7; obtain ⟨A7, c7, rfl⟩ := Kd.R_slice hr7; have q1 := (H3.out.midJ hg7).1; have qf := (H3.out.midJ hg7).2; have HY := Lib.hid (H3.out.putJ hr7 hg7); clear hr7 hb7 hg7 hat7))
            exact ⟨⟨e + 1, _, _, by rw [Int.natCast_add]; rfl, by omega, HY.out.toJ HLR.out.2.2⟩, by simp [intOf]; omega⟩
         ·have hen' : ¬ (e : Int) < (n : Int) := by omega
          obtain rfl : n = e := by omega
          have hJT : (JH J At n).take n = JH J At n := List.take_of_length_le (by rw [JH_len]; exact Nat.le_refl _)
          have hH := HQ.out.1
          rw [hJT] at hH
          have q1 := hH.e1
          have q2 := hH.e2
          have hS2 : ∃ mh, Solv (EH n) (UH n) (JH J At n) mh ∧ blocksB (EH n).length (ndB (JH J At n) mh) = bl ∧ ∀ (b : Nat) bb, bl[b]? = some bb → ∀ e ∈ bb, ∃ f ∈ bb, ((At.getD (rd mh e).toNat 0 : Nat) : Int) = rd m f := by
           obtain ⟨mh, hM, hHs, hbs, hrg, hpr⟩ := anyH HV.out.1 (At := At) (by rw [← HV.out.2.1]; exact HA.out.2.1)
           rw [← HV.out.2.2.2.2.1] at hbs hpr
           rw [← HV.out.2.1] at hM hHs hbs
           exact ⟨mh, ⟨validH hn14, goodH hn14, hM, hHs, by rw [EH_len]; exact hn14⟩, hbs, hpr⟩
          obtain ⟨mh, hS, hbs, hpr⟩ := hS2
          have r0 := Kd.R_reads' hH.rE
          have r1 := Kd.R_reads' hH.rU
          have r2 := Kd.R_reads' hH.rJ
          have hCB := c_Blocks (c0 := ce) (c1 := cu) (c2 := cj) hS.valid hS.matched hS.has r0.2.2 (by omega) r1.2.2 (by omega) r2.2.2 (by omega)
          rw [hbs, EH_len, UH_len, JH_len] at hCB
          have r0C := r0.2.2
          rw [EH_len] at r0C
          have HCB := Lib.hid hCB
          have hsb : w.heap.size ≤ we.heap.size := Nat.le_trans HX.out.size (Nat.le_trans HA.out.1.size hH.bel.size)
          have H2 := Lib.hid (And.intro hH (And.intro hS (And.intro hpr (And.intro r0C hsb))))
          clear hH hS hpr r0 r1 r2 hCB hbs hJT HQ hen hen' he HU HH r0C hsb
          go_wp2_with fail
          refine HCB.out.mono ?_
          rintro ex w6 ⟨A6, c6, rfl, hb6, hc6, hC6⟩
          have hbw6 : Below wi.heap.size wi w6 := H2.out.1.bel.trans (hb6.mono H2.out.1.bel.size)
          have hbg6 : Below w.heap.size w w6 := HX.out.trans ((HA.out.1.trans (hbw6.mono HA.out.1.size)).mono HX.out.size)
          have hmx6 := Kd.C_max hC6
          have a0 := pw_cell_below hbw6 (pw_cell_below HA.out.1 HGX.out.1)
          have a1 := pw_cell_below hbw6 (pw_cell_below HA.out.1 HGX.out.2.1)
          have a2 := pw_cell_below hbw6 (pw_cell_below HA.out.1 HGX.out.2.2)
          have b0 := pw_cell_below hb6 q0
          have b1 := pw_cell_below hb6 q1
          have b2 := pw_cell_below hb6 q2
          have hC5 := Kd.C_below (Kd.C_below HV.out.2.2.2.2.2 HA.out.1) hbw6
          have hCA := Kd.C_below HA.out.2.2.1 hbw6
          have H6 := Lib.hid (And.intro hbg6 (And.intro (And.intro a0 (And.intro a1 a2)) (And.intro (And.intro b0 (And.intro b1 b2)) (And.intro hC5 (And.intro hC6 (And.intro (Kd.C_below H2.out.2.2.2.1 hb6) hCA))))))
          clear hbw6 hbg6 a0 a1 a2 b0 b1 b2 hC5 hC6 hCA q0 q1 q2 qf0 k0 hhere hb6 hc6
          go_wp2_with fail
          go_loopw [21] (fun v W => ∃ b : Nat, v = .int .i64 b ∧ b ≤ bl.length ∧ Below w6.heap.size w6 W) (fun v _ => bl.length - (intOf v).toNat)
          case atStart => exact ⟨0, rfl, Nat.zero_le _, Below.refl _ _⟩
          case round =>
           obtain ⟨b, rfl, hb, hbw⟩ := hrel
           obtain ⟨wo, rfl⟩ : ∃ x, x = wr := ⟨_, rfl⟩
           have HW := Lib.hid hbw
           clear hbw
           by_cases hbl : b < bl.length
           ·as_aux_lemma =>
             have hbl' : (b : Int) < (bl.length : Int) := by omega
             have hb0 : (0 : Int) ≤ (b : Int) := by omega
             have hgb : bl[b]? = some (bl.getD b []) := by rw [List.getD_eq_getElem?_getD, List.getElem?_eq_getElem hbl]; rfl
             have hmap : ∀ E2 U2 m2, (bl.map (partOf E2 U2 m2)).getD b ([], []) = partOf E2 U2 m2 (bl.getD b []) := fun E2 U2 m2 => by rw [List.getD_eq_getElem?_getD, List.getElem?_map, hgb]; rfl
             obtain ⟨ad, Ax, cx, Ay, cy, hA, ax0, ay0, hCx, hCy⟩ := at_part (Kd.C_below H6.out.2.2.2.1 HW.out) b hbl
             obtain ⟨bd, Bx, dx, By, dy, hB, bx0, by0, hDx, hDy⟩ := at_part (Kd.C_below H6.out.2.2.2.2.1 HW.out) b hbl
             rw [hmap] at ax0 ay0 hCx hCy bx0 by0 hDx hDy
             obtain ⟨bb, hbb⟩ : ∃ bb, bb = bl.getD b [] := ⟨_, rfl⟩
             rw [← hbb] at ax0 ay0 hCx hCy bx0 by0 hDx hDy hgb
             have pL : ∀ E2 U2 m2, (partOf E2 U2 m2 bb).1.length = bb.length ∧ (partOf E2 U2 m2 bb).2.length = bb.length := fun E2 U2 m2 => ⟨List.length_map _, by rw [show (partOf E2 U2 m2 bb).2 = (usesOf m2 bb).map fun u => rd_T47 U2 u from rfl, List.length_map, usesOf_len]⟩
             rw [(pL _ _ _).1] at ax0 hCx bx0 hDx
             rw [(pL _ _ _).2] at ay0 hCy by0 hDy
             have hmxb := Kd.C_max hCx
             have hbs : ∀ e ∈ bb, e < E.length := fun e he => by
              have h9 := HV.out.2.2.2.2.1
              rw [h9] at hgb
              exact (Blt.blocksB_spec).lt b bb hgb e he
             rw [← HV.out.2.1] at hbs
             have hpb := H2.out.2.2.1 b bb hgb
             subst hA
             subst hB
             have HP := Lib.hid (And.intro (And.intro ax0 (And.intro ay0 (And.intro hCx hCy))) (And.intro (And.intro bx0 (And.intro by0 (And.intro hDx hDy))) (And.intro hbs hpb)))
             clear hCx hCy hDx hDy hbs hpb hmap hgb hbb pL
             go_wp2_with fail
             go_quiet (fail)
             clear ax0 ay0 bx0 by0
             go_wp2_with fail
             go_loopw [22] (fun v W => ∃ q : Nat, v = .int .i64 q ∧ q ≤ bb.length ∧ Below wo.heap.size wo W) (fun v _ => bb.length - (intOf v).toNat)
             case atStart => exact ⟨0, rfl, Nat.zero_le _, pw_below_drewN (Below.refl _ _) _⟩
             case round =>
              obtain ⟨q, rfl, hq, hbq⟩ := hrel
              obtain ⟨wq, rfl⟩ : ∃ x, x = wr := ⟨_, rfl⟩
              have ax0 := pw_cell_below hbq HP.out.1.1
              have ay0 := pw_cell_below hbq HP.out.1.2.1
              have bx0 := pw_cell_below hbq HP.out.2.1.1
              have by0 := pw_cell_below hbq HP.out.2.1.2.1
              have HQ := Lib.hid hbq
              clear hbq
              by_cases hql : q < bb.length
              ·as_aux_lemma =>
                have hql' : (q : Int) < (bb.length : Int) := by omega
                have hq0 : (0 : Int) ≤ (q : Int) := by omega
                obtain ⟨ax, hAx, s1c⟩ := Kd.at_string (Kd.C_below HP.out.1.2.2.1 HQ.out) (q : Int) hq0 hql'
                obtain ⟨bx, hBx, s2c⟩ := Kd.at_string (Kd.C_below HP.out.2.1.2.2.1 HQ.out) (q : Int) hq0 hql'
                subst hAx
                subst hBx
                obtain ⟨e, he⟩ : ∃ e, e = bb.getD q 0 := ⟨_, rfl⟩
                have hgq : bb[q]? = some e := by rw [he, List.getD_eq_getElem?_getD, List.getElem?_eq_getElem hql]; rfl
                have hen : e < n := HP.out.2.2.1 e (List.mem_of_getElem? hgq)
                have hnm : ∀ E2 U2 m2, rdOf ByteArray.empty (partOf E2 U2 m2 bb).1 (q : Int) = E2.getD e ByteArray.empty := fun E2 U2 m2 => by
                 rw [rdOf, Int.toNat_natCast, show (partOf E2 U2 m2 bb).1 = bb.map fun e => E2.getD e ByteArray.empty from rfl, List.getD_eq_getElem?_getD, List.getElem?_map, hgq]; rfl
                rw [hnm, Int.toNat_natCast] at s1c s2c
                obtain ⟨s1, hs1⟩ : ∃ s, s = E.getD e ByteArray.empty := ⟨_, rfl⟩
                obtain ⟨s2, hs2⟩ : ∃ s, s = (EH n).getD e ByteArray.empty := ⟨_, rfl⟩
                rw [← hs1] at s1c
                rw [← hs2] at s2c
                have a0 := pw_cell_below HQ.out (pw_cell_below HW.out H6.out.2.1.1)
                have a1 := pw_cell_below HQ.out (pw_cell_below HW.out H6.out.2.1.2.1)
                have a2 := pw_cell_below HQ.out (pw_cell_below HW.out H6.out.2.1.2.2)
                have b0 := pw_cell_below HQ.out (pw_cell_below HW.out H6.out.2.2.1.1)
                have b1 := pw_cell_below HQ.out (pw_cell_below HW.out H6.out.2.2.1.2.1)
                have b2 := pw_cell_below HQ.out (pw_cell_below HW.out H6.out.2.2.1.2.2)
                have hE1 : Calls Try.prog 15 #[.agg #[.slice A0 n c0, .slice A1 n c1, .slice A2 n c2], .string s1] wq.drew fun ex w' => ex = .returned (.int .i64 (e : Int)) ∧ Below wq.drew.heap.size wq.drew w' := by
                 have h9 := c_eq (U := U) (J := J) (c0 := c0) (c1 := c1) (c2 := c2) (A1 := A1) (A2 := A2) (w := wq.drew) (e := e) (s := s1) (Kd.C_drew (Kd.C_below (Kd.C_below (Kd.C_below HG.out.1 H6.out.1) HW.out) HQ.out)) (by rw [← HV.out.2.1]; exact hen) (by rw [hs1]) (fun j hj => by rw [hs1]; exact HV.out.1.good.apart hj (by rw [← HV.out.2.1]; exact hen))
                 rw [← HV.out.2.1, HV.out.2.2.1, HV.out.2.2.2.1] at h9
                 exact h9
                have hE2 : ∀ W, Below wq.drew.heap.size wq.drew W → Calls Try.prog 15 #[.agg #[.slice Ae n ce, .slice Au n cu, .slice Aj n cj], .string s2] W fun ex w' => ex = .returned (.int .i64 (e : Int)) ∧ Below W.heap.size W w' := fun W hW => by
                 have h9 := c_eq (E := EH n) (U := UH n) (J := JH J At n) (c0 := ce) (c1 := cu) (c2 := cj) (A0 := Ae) (A1 := Au) (A2 := Aj) (w := W) (e := e) (s := s2) (by rw [EH_len]; exact Kd.C_below (Kd.C_drew (Kd.C_below (Kd.C_below H6.out.2.2.2.2.2.1 HW.out) HQ.out)) hW) (by rw [EH_len]; exact hen) (by rw [hs2]) (fun j hj => by rw [hs2]; exact H2.out.2.1.good.apart hj (by rw [EH_len]; exact hen))
                 rw [EH_len, UH_len, JH_len] at h9
                 exact h9
                have HE1 := Lib.hid hE1
                have HE2 := Lib.hid hE2
                have HEE := Lib.hid he
                clear hE1 hE2 hs1 hs2 hgq hnm he
                go_wp2_with fail
                refine OrdL.begin_ (S := fun W => W.cell? ⟨w.heap.size, 0, none⟩ = some (.slice A0 n c0) ∧ W.cell? ⟨w.heap.size, 1, none⟩ = some (.slice A1 n c1) ∧ W.cell? ⟨w.heap.size, 2, none⟩ = some (.slice A2 n c2) ∧ W.cell? ⟨wi.heap.size, 0, none⟩ = some (.slice Ae n ce) ∧ W.cell? ⟨wi.heap.size, 1, none⟩ = some (.slice Au n cu) ∧ W.cell? ⟨wi.heap.size, 2, none⟩ = some (.slice Aj n cj) ∧ W.cell? (ad.add (b * 2)) = some (.slice (some ax) bb.length cx) ∧ W.cell? (ax.add q) = some (.string s1) ∧ W.cell? (bd.add (b * 2)) = some (.slice (some bx) bb.length dx) ∧ W.cell? (bx.add q) = some (.string s2)) [] [] (by kernel_rfl) ?_ (fun hHeld => ?_)
                focus ((try dsimp only); exact ⟨a0, a1, a2, b0, b1, b2, ax0, s1c, bx0, s2c⟩)
                refine OrdL.take (i := 0) (d := (some 202)) (v := ?_) rfl rfl (by kernel_rfl) (by kernel_rfl) (by kernel_rfl) (by kernel_rfl) (fun _ _ _ h => h) (by assumption) ⟨by rfl, ?_⟩ ?_
                rotate_left
                focus (intro w hSw; (try dsimp only at hSw); go_simp; try with_reducible rfl)
                (try simp only [Act.put, List.getElem_toArray, List.getElem_cons_zero, List.getElem_cons_succ, List.setIfInBounds_toArray, List.set_cons_zero, List.set_cons_succ])
                refine OrdL.take (i := 1) (d := (some 203)) (v := ?_) rfl rfl (by kernel_rfl) (by kernel_rfl) (by kernel_rfl) (by kernel_rfl) (fun _ _ _ h => h) (by assumption) ⟨by rfl, ?_⟩ ?_
                rotate_left
                focus (intro w hSw; (try dsimp only at hSw); go_simp; try with_reducible rfl)
                (try simp only [Act.put, List.getElem_toArray, List.getElem_cons_zero, List.getElem_cons_succ, List.setIfInBounds_toArray, List.set_cons_zero, List.set_cons_succ])
                refine OrdL.take (i := 2) (d := (some 204)) (v := ?_) rfl rfl (by kernel_rfl) (by kernel_rfl) (by kernel_rfl) (by kernel_rfl) (fun _ _ _ h => h) (by assumption) ⟨by rfl, ?_⟩ ?_
                rotate_left
                focus (intro w hSw; (try dsimp only at hSw); go_simp; try with_reducible rfl)
                (try simp only [Act.put, List.getElem_toArray, List.getElem_cons_zero, List.getElem_cons_succ, List.setIfInBounds_toArray, List.set_cons_zero, List.set_cons_succ])
                refine OrdL.take (i := 3) (d := (some 205)) (v := ?_) rfl rfl (by kernel_rfl) (by kernel_rfl) (by kernel_rfl) (by kernel_rfl) (fun _ _ _ h => h) (by assumption) ⟨by rfl, ?_⟩ ?_
                rotate_left
                focus (intro w hSw; (try dsimp only at hSw); go_simp; try with_reducible rfl)
                (try simp only [Act.put, List.getElem_toArray, List.getElem_cons_zero, List.getElem_cons_succ, List.setIfInBounds_toArray, List.set_cons_zero, List.set_cons_succ])
                refine OrdL.take (i := 4) (d := (some 206)) (v := ?_) rfl rfl (by kernel_rfl) (by kernel_rfl) (by kernel_rfl) (by kernel_rfl) (fun _ _ _ h => h) (by assumption) ⟨by rfl, ?_⟩ ?_
                rotate_left
                focus (intro w hSw; (try dsimp only at hSw); go_simp; try with_reducible rfl)
                (try simp only [Act.put, List.getElem_toArray, List.getElem_cons_zero, List.getElem_cons_succ, List.setIfInBounds_toArray, List.set_cons_zero, List.set_cons_succ])
                refine OrdL.take (i := 5) (d := (some 207)) (v := ?_) rfl rfl (by kernel_rfl) (by kernel_rfl) (by kernel_rfl) (by kernel_rfl) (fun _ _ _ h => h) (by assumption) ⟨by rfl, ?_⟩ ?_
                rotate_left
                focus (intro w hSw; (try dsimp only at hSw); go_simp; try with_reducible rfl)
                (try simp only [Act.put, List.getElem_toArray, List.getElem_cons_zero, List.getElem_cons_succ, List.setIfInBounds_toArray, List.set_cons_zero, List.set_cons_succ])
                refine OrdL.take (i := 6) (d := (some 208)) (v := ?_) rfl rfl (by kernel_rfl) (by kernel_rfl) (by kernel_rfl) (by kernel_rfl) (fun _ _ _ h => h) (by assumption) ⟨by rfl, ?_⟩ ?_
                rotate_left
                focus (intro w hSw; (try dsimp only at hSw); go_simp; try with_reducible rfl)
                (try simp only [Act.put, List.getElem_toArray, List.getElem_cons_zero, List.getElem_cons_succ, List.setIfInBounds_toArray, List.set_cons_zero, List.set_cons_succ])
                refine OrdL.take (i := 7) (d := (some 209)) (v := ?_) rfl rfl (by kernel_rfl) (by kernel_rfl) (by kernel_rfl) (by kernel_rfl) (fun _ _ _ h => h) (by assumption) ⟨by rfl, ?_⟩ ?_
                rotate_left
                focus (intro w hSw; (try dsimp only at hSw); go_simp; try with_reducible rfl)
                (try simp only [Act.put, List.getElem_toArray, List.getElem_cons_zero, List.getElem_cons_succ, List.setIfInBounds_toArray, List.set_cons_zero, List.set_cons_succ])
                refine OrdL.take (i := 8) (d := (some 210)) (v := ?_) rfl rfl (by kernel_rfl) (by kernel_rfl) (by kernel_rfl) (by kernel_rfl) (fun _ _ _ h => h) (by assumption) ⟨by rfl, ?_⟩ ?_
                rotate_left
                focus (intro w hSw; (try dsimp only at hSw); go_simp; try with_reducible rfl)
                (try simp only [Act.put, List.getElem_toArray, List.getElem_cons_zero, List.getElem_cons_succ, List.setIfInBounds_toArray, List.set_cons_zero, List.set_cons_succ])
                refine OrdL.take (i := 10) (d := (some 212)) (v := ?_) rfl rfl (by kernel_rfl) (by kernel_rfl) (by kernel_rfl) (by kernel_rfl) (fun _ _ _ h => h) (by assumption) ⟨by rfl, ?_⟩ ?_
                rotate_left
                focus (intro w hSw; (try dsimp only at hSw); go_simp; try with_reducible rfl)
                (try simp only [Act.put, List.getElem_toArray, List.getElem_cons_zero, List.getElem_cons_succ, List.setIfInBounds_toArray, List.set_cons_zero, List.set_cons_succ])
                refine OrdL.take (i := 11) (d := (some 213)) (v := ?_) rfl rfl (by kernel_rfl) (by kernel_rfl) (by kernel_rfl) (by kernel_rfl) (fun _ _ _ h => h) (by assumption) ⟨by rfl, ?_⟩ ?_
                rotate_left
                focus (intro w hSw; (try dsimp only at hSw); go_simp; try with_reducible rfl)
                (try simp only [Act.put, List.getElem_toArray, List.getElem_cons_zero, List.getElem_cons_succ, List.setIfInBounds_toArray, List.set_cons_zero, List.set_cons_succ])
                refine OrdL.take (i := 12) (d := (some 214)) (v := ?_) rfl rfl (by kernel_rfl) (by kernel_rfl) (by kernel_rfl) (by kernel_rfl) (fun _ _ _ h => h) (by assumption) ⟨by rfl, ?_⟩ ?_
                rotate_left
                focus (intro w hSw; (try dsimp only at hSw); go_simp; try with_reducible rfl)
                (try simp only [Act.put, List.getElem_toArray, List.getElem_cons_zero, List.getElem_cons_succ, List.setIfInBounds_toArray, List.set_cons_zero, List.set_cons_succ])
                refine OrdL.take (i := 13) (d := (some 215)) (v := ?_) rfl rfl (by kernel_rfl) (by kernel_rfl) (by kernel_rfl) (by kernel_rfl) (fun _ _ _ h => h) (by assumption) ⟨by rfl, ?_⟩ ?_
                rotate_left
                focus (intro w hSw; (try dsimp only at hSw); go_simp; try with_reducible rfl)
                (try simp only [Act.put, List.getElem_toArray, List.getElem_cons_zero, List.getElem_cons_succ, List.setIfInBounds_toArray, List.set_cons_zero, List.set_cons_succ])
                refine OrdL.take (i := 14) (d := (some 216)) (v := ?_) rfl rfl (by kernel_rfl) (by kernel_rfl) (by kernel_rfl) (by kernel_rfl) (fun _ _ _ h => h) (by assumption) ⟨by rfl, ?_⟩ ?_
                rotate_left
                focus (intro w hSw; (try dsimp only at hSw); go_simp; try with_reducible rfl)
                (try simp only [Act.put, List.getElem_toArray, List.getElem_cons_zero, List.getElem_cons_succ, List.setIfInBounds_toArray, List.set_cons_zero, List.set_cons_succ])
                refine OrdL.take (i := 15) (d := (some 217)) (v := ?_) rfl rfl (by kernel_rfl) (by kernel_rfl) (by kernel_rfl) (by kernel_rfl) (fun _ _ _ h => h) (by assumption) ⟨by rfl, ?_⟩ ?_
                rotate_left
                focus (intro w hSw; (try dsimp only at hSw); go_simp; try with_reducible rfl)
                (try simp only [Act.put, List.getElem_toArray, List.getElem_cons_zero, List.getElem_cons_succ, List.setIfInBounds_toArray, List.set_cons_zero, List.set_cons_succ])
                refine OrdL.take (i := 16) (d := (some 218)) (v := ?_) rfl rfl (by kernel_rfl) (by kernel_rfl) (by kernel_rfl) (by kernel_rfl) (fun _ _ _ h => h) (by assumption) ⟨by rfl, ?_⟩ ?_
                rotate_left
                focus (intro w hSw; (try dsimp only at hSw); go_simp; try with_reducible rfl)
                (try simp only [Act.put, List.getElem_toArray, List.getElem_cons_zero, List.getElem_cons_succ, List.setIfInBounds_toArray, List.set_cons_zero, List.set_cons_succ])
                refine OrdL.take (i := 17) (d := (some 219)) (v := ?_) rfl rfl (by kernel_rfl) (by kernel_rfl) (by kernel_rfl) (by kernel_rfl) (fun _ _ _ h => h) (by assumption) ⟨by rfl, ?_⟩ ?_
                rotate_left
                focus (intro w hSw; (try dsimp only at hSw); go_simp; try with_reducible rfl)
                (try simp only [Act.put, List.getElem_toArray, List.getElem_cons_zero, List.getElem_cons_succ, List.setIfInBounds_toArray, List.set_cons_zero, List.set_cons_succ])
                refine OrdL.take (i := 18) (d := (some 220)) (v := ?_) rfl rfl (by kernel_rfl) (by kernel_rfl) (by kernel_rfl) (by kernel_rfl) (fun _ _ _ h => h) (by assumption) ⟨by rfl, ?_⟩ ?_
                rotate_left
                focus (intro w hSw; (try dsimp only at hSw); go_simp; try with_reducible rfl)
                (try simp only [Act.put, List.getElem_toArray, List.getElem_cons_zero, List.getElem_cons_succ, List.setIfInBounds_toArray, List.set_cons_zero, List.set_cons_succ])
                refine OrdL.step (i := 9) rfl (by decide) (by kernel_rfl) (fun Kc hKc => ?_)
                simp only [List.getElem_toArray, List.getElem_cons_zero, List.getElem_cons_succ]
                go_simp
                go_at_call 15
                refine HE1.out.mono ?_
                rintro ex w7 ⟨rfl, hb7⟩
                have HB7 := Lib.hid hb7
                clear hb7
                go_wp2_with fail
                refine hKc.out _ _ ?_ (fun hHeld => ?_)
                focus ((try dsimp only); exact ⟨pw_cell_below HB7.out (show wq.drew.cell? _ = _ from a0), pw_cell_below HB7.out (show wq.drew.cell? _ = _ from a1), pw_cell_below HB7.out (show wq.drew.cell? _ = _ from a2), pw_cell_below HB7.out (show wq.drew.cell? _ = _ from b0), pw_cell_below HB7.out (show wq.drew.cell? _ = _ from b1), pw_cell_below HB7.out (show wq.drew.cell? _ = _ from b2), pw_cell_below HB7.out (show wq.drew.cell? _ = _ from ax0), pw_cell_below HB7.out (show wq.drew.cell? _ = _ from s1c), pw_cell_below HB7.out (show wq.drew.cell? _ = _ from bx0), pw_cell_below HB7.out (show wq.drew.cell? _ = _ from s2c)⟩)
                clear hKc Kc
                (try simp only [Act.put, List.getElem_toArray, List.getElem_cons_zero, List.getElem_cons_succ, List.setIfInBounds_toArray, List.set_cons_zero, List.set_cons_succ])
                refine OrdL.step (i := 19) rfl (by decide) (by kernel_rfl) (fun Kc hKc => ?_)
                simp only [List.getElem_toArray, List.getElem_cons_zero, List.getElem_cons_succ]
                go_simp
                go_at_call 15
                refine (HE2.out w7 HB7.out).mono ?_
                rintro ex w8 ⟨rfl, hb8⟩
                have HB8 := Lib.hid hb8
                clear hb8
                go_wp2_with fail
                refine hKc.out _ _ ?_ (fun hHeld => ?_)
                focus ((try dsimp only); exact ⟨pw_cell_below HB8.out (pw_cell_below HB7.out (show wq.drew.cell? _ = _ from a0)), pw_cell_below HB8.out (pw_cell_below HB7.out (show wq.drew.cell? _ = _ from a1)), pw_cell_below HB8.out (pw_cell_below HB7.out (show wq.drew.cell? _ = _ from a2)), pw_cell_below HB8.out (pw_cell_below HB7.out (show wq.drew.cell? _ = _ from b0)), pw_cell_below HB8.out (pw_cell_below HB7.out (show wq.drew.cell? _ = _ from b1)), pw_cell_below HB8.out (pw_cell_below HB7.out (show wq.drew.cell? _ = _ from b2)), pw_cell_below HB8.out (pw_cell_below HB7.out (show wq.drew.cell? _ = _ from ax0)), pw_cell_below HB8.out (pw_cell_below HB7.out (show wq.drew.cell? _ = _ from s1c)), pw_cell_below HB8.out (pw_cell_below HB7.out (show wq.drew.cell? _ = _ from bx0)), pw_cell_below HB8.out (pw_cell_below HB7.out (show wq.drew.cell? _ = _ from s2c))⟩)
                clear hKc Kc
                (try simp only [Act.put, List.getElem_toArray, List.getElem_cons_zero, List.getElem_cons_succ, List.setIfInBounds_toArray, List.set_cons_zero, List.set_cons_succ])
                refine OrdL.take (i := 20) (d := (some 222)) (v := ?_) rfl rfl (by kernel_rfl) (by kernel_rfl) (by kernel_rfl) (by kernel_rfl) (fun _ _ _ h => h) (by assumption) ⟨by rfl, ?_⟩ ?_
                rotate_left
                focus (intro w hSw; (try dsimp only at hSw); go_simp; try with_reducible rfl)
                (try simp only [Act.put, List.getElem_toArray, List.getElem_cons_zero, List.getElem_cons_succ, List.setIfInBounds_toArray, List.set_cons_zero, List.set_cons_succ])
                refine OrdL.done (by kernel_rfl) ?_ _
                go_wp2_with fail
                exact ⟨⟨q + 1, by rw [Int.natCast_add]; rfl, by omega, ((below_drew HQ.out).trans (HB7.out.mono (below_drew HQ.out).size)).trans (HB8.out.mono ((below_drew HQ.out).trans (HB7.out.mono (below_drew HQ.out).size)).size)⟩, by simp [intOf]; omega⟩
              ·have hql' : ¬ (q : Int) < (bb.length : Int) := by omega
               go_wp2_with fail
               clear ax0 ay0 bx0 by0 hql hql' hq
               go_loopw [23] (fun v W => ∃ i : Nat, v = .int .i64 i ∧ i ≤ bb.length ∧ Below wo.heap.size wo W) (fun v _ => bb.length - (intOf v).toNat)
               case atStart => exact ⟨0, rfl, Nat.zero_le _, HQ.out⟩
               case round =>
                obtain ⟨i, rfl, hi, hbz⟩ := hrel
                obtain ⟨wz, rfl⟩ : ∃ x, x = wr := ⟨_, rfl⟩
                have HZ := Lib.hid hbz
                clear hbz HQ
                have ay0 := pw_cell_below HZ.out HP.out.1.2.1
                have by0 := pw_cell_below HZ.out HP.out.2.1.2.1
                by_cases hil : i < bb.length
                ·as_aux_lemma =>
                  have hil' : (i : Int) < (bb.length : Int) := by omega
                  have hi0 : (0 : Int) ≤ (i : Int) := by omega
                  have hau := any_use (m := m) (mh := mh) (At := At) (bb := bb) (n := n) (fun e he => by have h9 := H2.out.2.1.ns e (by rw [EH_len]; exact he); rw [UH_len] at h9; exact h9) HP.out.2.2.1 HA.out.2.1 HP.out.2.2.2 hil
                  obtain ⟨k, y, i0, hk, hku, hky, hyn, hi0b, hi0u⟩ := hau
                  have hk0 : (0 : Int) ≤ (k : Int) := by omega
                  have hk' : (k : Int) < (n : Int) := by omega
                  have hy0 : (0 : Int) ≤ (y : Int) := by omega
                  have hy' : (y : Int) < (n : Int) := by omega
                  have g1 := pw_cell_below HZ.out (pw_cell_below HW.out H6.out.2.1.2.1)
                  have hC1 := Kd.C_below (Kd.C_below (Kd.C_below HG.out.2.2.1 H6.out.1) HW.out) HZ.out
                  rw [HV.out.2.2.1] at hC1
                  obtain ⟨aU, hAU, z0, z1, z2⟩ := at_T47 hC1 (y : Int) hy0 hy'
                  subst hAU
                  obtain ⟨aA, hAA, hca⟩ := Kd.at_int (Kd.C_below (Kd.C_below H6.out.2.2.2.2.2.2 HW.out) HZ.out) (k : Int) hk0 hk'
                  subst hAA
                  rw [Int.toNat_natCast, rd_int, hky] at hca
                  rw [Int.toNat_natCast] at z0 z1 z2
                  obtain ⟨z, hz⟩ : ∃ z, z = rd_T47 U (y : Int) := ⟨_, rfl⟩
                  rw [← hz] at z0 z1 z2
                  obtain ⟨bY, hBY, x0, x1, x2⟩ := at_T47 (Kd.C_below HP.out.2.1.2.2.2 HZ.out) (i : Int) hi0 hil'
                  subst hBY
                  have hxe : rd_T47 (partOf (EH n) (UH n) mh bb).2 (i : Int) = useH k := by
                   rw [show (partOf (EH n) (UH n) mh bb).2 = (usesOf mh bb).map fun u => rd_T47 (UH n) u from rfl, rd_T47, Int.toNat_natCast, List.getD_eq_getElem?_getD, List.getElem?_map, List.getElem?_eq_getElem (by rw [usesOf_len]; exact hil), Option.map_some, Option.getD_some]
                   rw [List.getD_eq_getElem?_getD, List.getElem?_eq_getElem (by rw [usesOf_len]; exact hil), Option.getD_some] at hku
                   rw [hku, rd_T47, Int.toNat_natCast]; exact UH_get hk
                  rw [hxe, Int.toNat_natCast] at x0
                  obtain ⟨s, hs⟩ : ∃ s, s = nmC 118 k := ⟨_, rfl⟩
                  rw [show (useH k).f0 = s from hs.symm] at x0
                  have hss : s.size = 2 := by rw [hs]; rfl
                  have h1s : 1 < s.size := by rw [hss]; decide
                  have hwk : IntKind.u8.wrap (((s[1]'h1s).toNat : Int) - 97) = (k : Int) := nm_k hs h1s (by omega)
                  have hw64 : IntKind.i64.wrap (k : Int) = (k : Int) := IntWalk.i64_in _ ⟨by omega, by omega⟩
                  have HKU := Lib.hid (And.intro hz (And.intro hi0u (And.intro hs hi0b)))
                  clear hku hky hi0u hxe hs hz x1 x2 hC1
                  go_wp2_with fail
                  refine OrdL.begin_ (S := fun W => W.cell? ⟨w.heap.size, 1, none⟩ = some (.slice (some aU) n c1) ∧ W.cell? ⟨(bd.add (b * 2)).block, (bd.add (b * 2)).off + 1, none⟩ = some (.slice (some bY) bb.length dy) ∧ W.cell? (bY.add (i * 3)) = some (.string s) ∧ W.cell? (aA.add k) = some (.int .i64 (y : Int)) ∧ W.cell? (aU.add (y * 3)) = some (.string z.f0) ∧ W.cell? ⟨(aU.add (y * 3)).block, (aU.add (y * 3)).off + 1, none⟩ = some (.int .i64 z.f1) ∧ W.cell? ⟨(aU.add (y * 3)).block, (aU.add (y * 3)).off + 2, none⟩ = some (.bool z.f2)) [] [20] (by kernel_rfl) ?_ (fun hHeld => ?_)
                  focus ((try dsimp only); exact ⟨g1, by0, x0, hca, z0, z1, z2⟩)
                  refine OrdL.take (i := 0) (d := (some 233)) (v := ?_) rfl rfl (by kernel_rfl) (by kernel_rfl) (by kernel_rfl) (by kernel_rfl) (fun _ _ _ h => h) (by assumption) ⟨by rfl, ?_⟩ ?_
                  rotate_left
                  focus (intro w hSw; (try dsimp only at hSw); go_simp; try with_reducible rfl)
                  (try simp only [Act.put, List.getElem_toArray, List.getElem_cons_zero, List.getElem_cons_succ, List.setIfInBounds_toArray, List.set_cons_zero, List.set_cons_succ])
                  refine OrdL.take (i := 1) (d := (some 234)) (v := ?_) rfl rfl (by kernel_rfl) (by kernel_rfl) (by kernel_rfl) (by kernel_rfl) (fun _ _ _ h => h) (by assumption) ⟨by rfl, ?_⟩ ?_
                  rotate_left
                  focus (intro w hSw; (try dsimp only at hSw); go_simp; try with_reducible rfl)
                  (try simp only [Act.put, List.getElem_toArray, List.getElem_cons_zero, List.getElem_cons_succ, List.setIfInBounds_toArray, List.set_cons_zero, List.set_cons_succ])
                  refine OrdL.take (i := 2) (d := (some 235)) (v := ?_) rfl rfl (by kernel_rfl) (by kernel_rfl) (by kernel_rfl) (by kernel_rfl) (fun _ _ _ h => h) (by assumption) ⟨by rfl, ?_⟩ ?_
                  rotate_left
                  focus (intro w hSw; (try dsimp only at hSw); go_simp; try with_reducible rfl)
                  (try simp only [Act.put, List.getElem_toArray, List.getElem_cons_zero, List.getElem_cons_succ, List.setIfInBounds_toArray, List.set_cons_zero, List.set_cons_succ])
                  refine OrdL.take (i := 3) (d := (some 236)) (v := ?_) rfl rfl (by kernel_rfl) (by kernel_rfl) (by kernel_rfl) (by kernel_rfl) (fun _ _ _ h => h) (by assumption) ⟨by rfl, ?_⟩ ?_
                  rotate_left
                  focus (intro w hSw; (try dsimp only at hSw); go_simp; try with_reducible rfl)
                  (try simp only [Act.put, List.getElem_toArray, List.getElem_cons_zero, List.getElem_cons_succ, List.setIfInBounds_toArray, List.set_cons_zero, List.set_cons_succ])
                  refine OrdL.take (i := 4) (d := (some 237)) (v := ?_) rfl rfl (by kernel_rfl) (by kernel_rfl) (by kernel_rfl) (by kernel_rfl) (fun _ _ _ h => h) (by assumption) ⟨by rfl, ?_⟩ ?_
                  rotate_left
                  focus (intro w hSw; (try dsimp only at hSw); go_simp; try with_reducible rfl)
                  (try simp only [Act.put, List.getElem_toArray, List.getElem_cons_zero, List.getElem_cons_succ, List.setIfInBounds_toArray, List.set_cons_zero, List.set_cons_succ])
                  refine OrdL.take (i := 5) (d := (some 238)) (v := ?_) rfl rfl (by kernel_rfl) (by kernel_rfl) (by kernel_rfl) (by kernel_rfl) (fun _ _ _ h => h) (by assumption) ⟨by rfl, ?_⟩ ?_
                  rotate_left
                  focus (intro w hSw; (try dsimp only at hSw); go_simp; try with_reducible rfl)
                  (try simp only [Act.put, List.getElem_toArray, List.getElem_cons_zero, List.getElem_cons_succ, List.setIfInBounds_toArray, List.set_cons_zero, List.set_cons_succ])
                  refine OrdL.take (i := 6) (d := (some 239)) (v := ?_) rfl rfl (by kernel_rfl) (by kernel_rfl) (by kernel_rfl) (by kernel_rfl) (fun _ _ _ h => h) (by assumption) ⟨by rfl, ?_⟩ ?_
                  rotate_left
                  focus (intro w hSw; (try dsimp only at hSw); go_simp; try with_reducible rfl)
                  (try simp only [Act.put, List.getElem_toArray, List.getElem_cons_zero, List.getElem_cons_succ, List.setIfInBounds_toArray, List.set_cons_zero, List.set_cons_succ])
                  refine OrdL.take (i := 7) (d := (some 240)) (v := ?_) rfl rfl (by kernel_rfl) (by kernel_rfl) (by kernel_rfl) (by kernel_rfl) (fun _ _ _ h => h) (by assumption) ⟨by rfl, ?_⟩ ?_
                  rotate_left
                  focus (intro w hSw; (try dsimp only at hSw); go_simp; try with_reducible rfl)
                  (try simp only [Act.put, List.getElem_toArray, List.getElem_cons_zero, List.getElem_cons_succ, List.setIfInBounds_toArray, List.set_cons_zero, List.set_cons_succ])
                  refine OrdL.take (i := 8) (d := (some 241)) (v := ?_) rfl rfl (by kernel_rfl) (by kernel_rfl) (by kernel_rfl) (by kernel_rfl) (fun _ _ _ h => h) (by assumption) ⟨by rfl, ?_⟩ ?_
                  rotate_left
                  focus (intro w hSw; (try dsimp only at hSw); go_simp; try with_reducible rfl)
                  (try simp only [Act.put, List.getElem_toArray, List.getElem_cons_zero, List.getElem_cons_succ, List.setIfInBounds_toArray, List.set_cons_zero, List.set_cons_succ])
                  refine OrdL.take (i := 9) (d := (some 242)) (v := ?_) rfl rfl (by kernel_rfl) (by kernel_rfl) (by kernel_rfl) (by kernel_rfl) (fun _ _ _ h => h) (by assumption) ⟨by rfl, ?_⟩ ?_
                  rotate_left
                  focus (intro w hSw; (try dsimp only at hSw); go_simp; try with_reducible rfl)
                  (try simp only [Act.put, List.getElem_toArray, List.getElem_cons_zero, List.getElem_cons_succ, List.setIfInBounds_toArray, List.set_cons_zero, List.set_cons_succ])
                  refine OrdL.take (i := 10) (d := (some 243)) (v := ?_) rfl rfl (by kernel_rfl) (by kernel_rfl) (by kernel_rfl) (by kernel_rfl) (fun _ _ _ h => h) (by assumption) ⟨by rfl, ?_⟩ ?_
                  rotate_left
                  focus (intro w hSw; (try dsimp only at hSw); go_simp; try with_reducible rfl)
                  (try simp only [Act.put, List.getElem_toArray, List.getElem_cons_zero, List.getElem_cons_succ, List.setIfInBounds_toArray, List.set_cons_zero, List.set_cons_succ])
                  refine OrdL.take (i := 11) (d := (some 244)) (v := ?_) rfl rfl (by kernel_rfl) (by kernel_rfl) (by kernel_rfl) (by kernel_rfl) (fun _ _ _ h => h) (by assumption) ⟨by rfl, ?_⟩ ?_
                  rotate_left
                  focus (intro w hSw; (try dsimp only at hSw); go_simp; try with_reducible rfl)
                  (try simp only [Act.put, List.getElem_toArray, List.getElem_cons_zero, List.getElem_cons_succ, List.setIfInBounds_toArray, List.set_cons_zero, List.set_cons_succ])
                  refine OrdL.take (i := 12) (d := (some 245)) (v := ?_) rfl rfl (by kernel_rfl) (by kernel_rfl) (by kernel_rfl) (by kernel_rfl) (fun _ _ _ h => h) (by assumption) ⟨by rfl, ?_⟩ ?_
                  rotate_left
                  focus (intro w hSw; (try dsimp only at hSw); go_simp; try with_reducible rfl)
                  (try simp only [Act.put, List.getElem_toArray, List.getElem_cons_zero, List.getElem_cons_succ, List.setIfInBounds_toArray, List.set_cons_zero, List.set_cons_succ])
                  refine OrdL.take (i := 13) (d := (some 246)) (v := ?_) rfl rfl (by kernel_rfl) (by kernel_rfl) (by kernel_rfl) (by kernel_rfl) (fun _ _ _ h => h) (by assumption) ⟨by rfl, ?_⟩ ?_
                  rotate_left
                  focus (intro w hSw; (try dsimp only at hSw); go_simp; try with_reducible rfl)
                  (try simp only [Act.put, List.getElem_toArray, List.getElem_cons_zero, List.getElem_cons_succ, List.setIfInBounds_toArray, List.set_cons_zero, List.set_cons_succ])
                  refine OrdL.take (i := 14) (d := (some 247)) (v := ?_) rfl rfl (by kernel_rfl) (by kernel_rfl) (by kernel_rfl) (by kernel_rfl) (fun _ _ _ h => h) (by assumption) ⟨by rfl, ?_⟩ ?_
                  rotate_left
                  focus (intro w hSw; (try dsimp only at hSw); go_simp; try with_reducible rfl)
                  (try simp only [Act.put, List.getElem_toArray, List.getElem_cons_zero, List.getElem_cons_succ, List.setIfInBounds_toArray, List.set_cons_zero, List.set_cons_succ])
                  refine OrdL.take (i := 15) (d := (some 248)) (v := ?_) rfl rfl (by kernel_rfl) (by kernel_rfl) (by kernel_rfl) (by kernel_rfl) (fun _ _ _ h => h) (by assumption) ⟨by rfl, ?_⟩ ?_
                  rotate_left
                  focus (intro w hSw; (try dsimp only at hSw); go_simp; try with_reducible rfl)
                  (try simp only [Act.put, List.getElem_toArray, List.getElem_cons_zero, List.getElem_cons_succ, List.setIfInBounds_toArray, List.set_cons_zero, List.set_cons_succ])
                  refine OrdL.take (i := 16) (d := (some 249)) (v := ?_) rfl rfl (by kernel_rfl) (by kernel_rfl) (by kernel_rfl) (by kernel_rfl) (fun _ _ _ h => h) (by assumption) ⟨by rfl, ?_⟩ ?_
                  rotate_left
                  focus (intro w hSw; (try dsimp only at hSw); go_simp; try with_reducible rfl)
                  (try simp only [Act.put, List.getElem_toArray, List.getElem_cons_zero, List.getElem_cons_succ, List.setIfInBounds_toArray, List.set_cons_zero, List.set_cons_succ])
                  refine OrdL.take (i := 17) (d := (some 250)) (v := ?_) rfl rfl (by kernel_rfl) (by kernel_rfl) (by kernel_rfl) (by kernel_rfl) (fun _ _ _ h => h) (by assumption) ⟨by rfl, ?_⟩ ?_
                  rotate_left
                  focus (intro w hSw; (try dsimp only at hSw); go_simp; try with_reducible rfl)
                  (try simp only [Act.put, List.getElem_toArray, List.getElem_cons_zero, List.getElem_cons_succ, List.setIfInBounds_toArray, List.set_cons_zero, List.set_cons_succ])
                  refine OrdL.take (i := 18) (d := (some 251)) (v := ?_) rfl rfl (by kernel_rfl) (by kernel_rfl) (by kernel_rfl) (by kernel_rfl) (fun _ _ _ h => h) (by assumption) ⟨by rfl, ?_⟩ ?_
                  rotate_left
                  focus (intro w hSw; (try dsimp only at hSw); go_simp; try with_reducible rfl)
                  (try simp only [Act.put, List.getElem_toArray, List.getElem_cons_zero, List.getElem_cons_succ, List.setIfInBounds_toArray, List.set_cons_zero, List.set_cons_succ])
                  refine OrdL.step (i := 19) rfl (by decide) (by kernel_rfl) (fun Kc hKc => ?_)
                  simp only [List.getElem_toArray, List.getElem_cons_zero, List.getElem_cons_succ]
                  go_simp
                  refine hKc.out _ _ ?_ (fun hHeld => ?_)
                  focus ((try dsimp only); exact ⟨pw_cell_below (below_alloc (Below.refl _ _) _) (show wz.drew.cell? _ = _ from g1), pw_cell_below (below_alloc (Below.refl _ _) _) (show wz.drew.cell? _ = _ from by0), pw_cell_below (below_alloc (Below.refl _ _) _) (show wz.drew.cell? _ = _ from x0), pw_cell_below (below_alloc (Below.refl _ _) _) (show wz.drew.cell? _ = _ from hca), pw_cell_below (below_alloc (Below.refl _ _) _) (show wz.drew.cell? _ = _ from z0), pw_cell_below (below_alloc (Below.refl _ _) _) (show wz.drew.cell? _ = _ from z1), pw_cell_below (below_alloc (Below.refl _ _) _) (show wz.drew.cell? _ = _ from z2)⟩)
                  clear hKc Kc
                  (try simp only [Act.put, List.getElem_toArray, List.getElem_cons_zero, List.getElem_cons_succ, List.setIfInBounds_toArray, List.set_cons_zero, List.set_cons_succ])
                  refine OrdL.last (i := 20) rfl (by decide) (by decide) (by kernel_rfl) (fun Kc hKc => ?_)
                  simp only [List.getElem_toArray, List.getElem_cons_zero, List.getElem_cons_succ]
                  go_simp
                  refine hKc.out _ _ ?_
                  clear hKc Kc
                  (try simp only [Act.put, List.getElem_toArray, List.getElem_cons_zero, List.getElem_cons_succ, List.setIfInBounds_toArray, List.set_cons_zero, List.set_cons_succ])
                  refine OrdL.done (by kernel_rfl) ?_ _
                  go_wp2_with fail
                  obtain ⟨wb, hwb⟩ : ∃ x, x = (wz.alloc (.cells #[.string z.f0, .int .i64 z.f1, .bool z.f2] 47)).drew := ⟨_, rfl⟩
                  rw [← hwb]
                  have hw0 : wb.cell? ⟨wz.heap.size, 0, none⟩ = some (.string z.f0) := by rw [hwb]; show (wz.alloc _).cell? _ = _; rw [World.cell?_alloc_at _ _ _ _ rfl]; rfl
                  have hw1 : wb.cell? ⟨wz.heap.size, 1, none⟩ = some (.int .i64 z.f1) := by rw [hwb]; show (wz.alloc _).cell? _ = _; rw [World.cell?_alloc_at _ _ _ _ rfl]; rfl
                  have hw2 : wb.cell? ⟨wz.heap.size, 2, none⟩ = some (.bool z.f2) := by rw [hwb]; show (wz.alloc _).cell? _ = _; rw [World.cell?_alloc_at _ _ _ _ rfl]; rfl
                  have hbz : Below wo.heap.size wo wb := by rw [hwb]; exact below_drew (HZ.out.alloc HZ.out.size _)
                  have HWB := Lib.hid (And.intro hbz (And.intro hw0 (And.intro hw1 hw2)))
                  clear hwb hw0 hw1 hw2 hbz z0 z1 z2 x0 hca g1 hwk hw64 ay0 by0
                  go_loopw [26, 25] (fun v v25 W => ∃ (j : Nat) (β : Bool), v = .int .i64 j ∧ v25 = .bool β ∧ j ≤ bb.length ∧ (i0 < j → β = true) ∧ Below wb.heap.size wb W) (fun v _ _ => bb.length - (intOf v).toNat)
                  case atStart => exact ⟨0, false, rfl, rfl, Nat.zero_le _, fun h => absurd h (Nat.not_lt_zero _), Below.refl _ _⟩
                  case round =>
                   obtain ⟨j, β, rfl, rfl, hj, hβ, hbj⟩ := hrel
                   obtain ⟨wj, rfl⟩ : ∃ x, x = wr := ⟨_, rfl⟩
                   have ay0 := pw_cell_below hbj (pw_cell_below HWB.out.1 HP.out.1.2.1)
                   have w0 := pw_cell_below hbj HWB.out.2.1
                   have w1 := pw_cell_below hbj HWB.out.2.2.1
                   have w2' := pw_cell_below hbj HWB.out.2.2.2
                   have HB2 := Lib.hid (And.intro hbj hβ)
                   clear hbj hβ
                   by_cases hjl : j < bb.length
                   ·have hjl' : (j : Int) < (bb.length : Int) := by omega
                    have hj0 : (0 : Int) ≤ (j : Int) := by omega
                    obtain ⟨aY, hAY, x0, x1, x2⟩ := at_T47 (Kd.C_below (Kd.C_below HP.out.1.2.2.2 HWB.out.1) HB2.out.1) (j : Int) hj0 hjl'
                    subst hAY
                    obtain ⟨x, hx⟩ : ∃ x, x = rd_T47 (partOf E U m bb).2 (j : Int) := ⟨_, rfl⟩
                    rw [← hx, Int.toNat_natCast] at x0 x1 x2
                    have hxz : j = i0 → x = z := fun h9 => by
                     have h8 := HKU.out.2.1
                     rw [List.getD_eq_getElem?_getD, List.getElem?_eq_getElem (by rw [usesOf_len]; exact HKU.out.2.2.2), Option.getD_some] at h8
                     rw [hx, h9, HKU.out.1, show (partOf E U m bb).2 = (usesOf m bb).map fun u => rd_T47 U u from rfl, rd_T47, Int.toNat_natCast, List.getD_eq_getElem?_getD, List.getElem?_map, List.getElem?_eq_getElem (by rw [usesOf_len]; exact HKU.out.2.2.2), Option.map_some, Option.getD_some, h8]
                    have HXZ := Lib.hid hxz
                    clear hx hxz
                    rcases β with _ | _
                    ·by_cases hji : j = i0
                     ·obtain rfl := HXZ.out hji
                      have HJI := Lib.hid hji
                      clear hji
                      go_wp2_with fail
                      go_quiet (fail)
                      go_wp2_with fail
                      exact ⟨⟨j + 1, true, by rw [Int.natCast_add]; rfl, rfl, by omega, fun _ => rfl, pw_below_drewN HB2.out.1 _⟩, by simp [intOf]; omega⟩
                     ·have HJI : Hid (¬ i0 < j + 1) := Lib.hid (fun h8 : i0 < j + 1 => absurd (HB2.out.2 (by omega)) (by decide))
                      clear hji
                      by_cases d0 : x.f0.toList = z.f0.toList
                      ·by_cases d1 : x.f1 = z.f1
                       ·by_cases d2 : x.f2 = z.f2
                        ·skip
                         go_wp2_with fail
                         go_quiet (fail)
                         go_wp2_with fail
                         exact ⟨⟨j + 1, true, by rw [Int.natCast_add]; rfl, rfl, by omega, fun _ => rfl, pw_below_drewN HB2.out.1 _⟩, by simp [intOf]; omega⟩
                        ·skip
                         go_wp2_with fail
                         go_quiet (fail)
                         go_wp2_with fail
                         exact ⟨⟨j + 1, false, by rw [Int.natCast_add]; rfl, rfl, by omega, fun h9 => absurd h9 HJI.out, pw_below_drewN HB2.out.1 _⟩, by simp [intOf]; omega⟩
                       ·skip
                        go_wp2_with fail
                        go_quiet (fail)
                        go_wp2_with fail
                        exact ⟨⟨j + 1, false, by rw [Int.natCast_add]; rfl, rfl, by omega, fun h9 => absurd h9 HJI.out, pw_below_drewN HB2.out.1 _⟩, by simp [intOf]; omega⟩
                      ·skip
                       go_wp2_with fail
                       go_quiet (fail)
                       go_wp2_with fail
                       exact ⟨⟨j + 1, false, by rw [Int.natCast_add]; rfl, rfl, by omega, fun h9 => absurd h9 HJI.out, pw_below_drewN HB2.out.1 _⟩, by simp [intOf]; omega⟩
                    ·go_wp2_with fail
                     go_quiet (fail)
                     go_wp2_with fail
                     exact ⟨⟨j + 1, true, by rw [Int.natCast_add]; rfl, rfl, by omega, fun _ => rfl, pw_below_drewN HB2.out.1 _⟩, by simp [intOf]; omega⟩
                   ·have hjl' : ¬ (j : Int) < (bb.length : Int) := by omega
                    obtain rfl : bb.length = j := by omega
                    obtain rfl := HB2.out.2 HKU.out.2.2.2
                    go_wp2_with fail
                    exact ⟨⟨i + 1, by rw [Int.natCast_add]; rfl, by omega, HWB.out.1.trans (HB2.out.1.mono HWB.out.1.size)⟩, by simp [intOf]; omega⟩
                ·have hil' : ¬ (i : Int) < (bb.length : Int) := by omega
                 go_wp2_with fail
                 exact ⟨⟨b + 1, by rw [Int.natCast_add]; rfl, by omega, HW.out.trans (HZ.out.mono HW.out.size)⟩, by simp [intOf]; omega⟩
           ·have hbl' : ¬ (b : Int) < (bl.length : Int) := by omega
            have HWW := Lib.hid (H6.out.1.trans (HW.out.mono H6.out.1.size))
            go_wp2_with fail
            refine c_awake.mono ?_
            rintro ex w9 ⟨rfl, hb9⟩
            have HX9 := Lib.hid (HWW.out.trans (hb9.mono HWW.out.size))
            clear hb9
            go_wp2_with fail
            go_ret
            exact ⟨rfl, HX9.out⟩
end
end Go.Proofs.Ytmfcefakpfbaoaa.PMatch
end
