/- Lemmas for RowBltAny. -/
import Derived.Test.YtmfcefakpfbaoaaQH
import Derived.Test.YtmfcefakpfbaoaaQC
section
set_option linter.unusedVariables false
set_option linter.unusedSimpArgs false
namespace Go.Proofs.Ytmfcefakpfbaoaa.PMatch
open Go.RowKit Go.Proofs.YtmfcefakpfbaoaaW.PrintWords Go.Proofs.YtmfcefakpfbaoaaW.PrintLast Go.Proofs.YtmfcefakpfbaoaaW.PrintMore
open Blt (ints blocks0 Blocks seqB blocksB needsB waitB posL placeL)
theorem info102 : (Try.prog.info? 103).map (fun i => (i.zero, i.size, i.bytes)) = some (some (.map none), 1, 8) := by kernel_rfl
structure OIn (n N sb fb : Nat) (AJ : Option Addr) (cJ : Nat) (J : List (List Int)) (Am : Option Addr) (cm : Nat) (m : List Int) (Ao : Option Addr) (co : Nat) (of : List Int) (Ab : Option Addr) (cb : Nat) (B0 : Nat) (w : World) : Prop where
  sees : Sees sb AJ cJ J Am cm m w
  c4 : w.cell? ⟨sb, 4, none⟩ = some (.slice none 0 0)
  f4 : w.frozen? ⟨sb, 4, none⟩ = false
  c6 : w.cell? ⟨sb, 6, none⟩ = some (.slice none 0 0)
  f6 : w.frozen? ⟨sb, 6, none⟩ = false
  c5 : w.cell? ⟨sb, 5, none⟩ = some (.slice Ao n co)
  ro : Kd.R (Kd.int .i64) 3 w B0 (fun k => k = fb) (.slice Ao n co) of
  rb : (Kd.slice 3 (Kd.int .i64)).R 31 w B0 (fun k => k ≠ sb ∧ k ≠ fb) (.slice Ab N cb) ((blocks0 n (ndB J m)).map ints)
  hJ : J.length = n
  hm : m.length = n
  hn : n ≤ 1000000
  hrows : ∀ e, e < n → (rd_L4 J e).length ≤ 1000000
  hN : (blocks0 n (ndB J m)).length = N
  hof : of.length = n
  hofs : ∀ f, f < n → ∃ i : Nat, rd of f = i ∧ ∃ b, (blocks0 n (ndB J m))[i]? = some b ∧ f ∈ b
  hs : B0 ≤ sb
  hf : B0 ≤ fb
  hsf : sb ≠ fb
  hfl : fb < w.heap.size
def M1 (wr : World) (B j : Nat) : World :=
  ((wr.setCell ⟨B + 1, j, none⟩ (.map (some (wr.heap.size + 1)))).alloc (.cells #[.int .i64 (j : Int)] 3)).alloc (.map #[] 0)
section
variable {wr : World} {B j : Nat}
theorem M1_old {k : Nat} (hk : k < wr.heap.size) (hne : k ≠ B + 1) : (M1 wr B j).heap[k]? = wr.heap[k]? := by
  show (((wr.setCell ⟨B + 1, j, none⟩ (.map (some (wr.heap.size + 1)))).alloc (.cells #[.int .i64 (j : Int)] 3)).alloc (.map #[] 0)).heap[k]? = _
  rw [Below.heap_alloc _ _ _ (by simp; omega), Below.heap_alloc _ _ _ (by simp; omega), Below.heap_setCell _ _ _ _ hne]
theorem M1_at (hB : B + 1 < wr.heap.size) (o : Nat) :
    (M1 wr B j).cell? ⟨B + 1, o, none⟩ = (wr.setCell ⟨B + 1, j, none⟩ (.map (some (wr.heap.size + 1)))).cell? ⟨B + 1, o, none⟩ ∧ (M1 wr B j).frozen? ⟨B + 1, o, none⟩ = wr.frozen? ⟨B + 1, o, none⟩ := by
  unfold M1
  constructor
  · rw [World.cell?_alloc_past _ _ _ (by simp; omega), World.cell?_alloc_past _ _ _ (by simp; omega)]
  · rw [World.frozen?_alloc_past _ _ _ (by simp; omega), World.frozen?_alloc_past _ _ _ (by simp; omega), World.frozen?_setCell]
theorem M1_size : (M1 wr B j).heap.size = wr.heap.size + 2 := by simp [M1]
theorem M1_p2 : (M1 wr B j).cell? ⟨wr.heap.size, 0, none⟩ = some (.int .i64 (j : Int)) := by
  unfold M1
  rw [World.cell?_alloc_past _ _ _ (by simp <;> omega), World.cell?_alloc_at _ _ _ _ (by simp)]; rfl
theorem M1_map : MapI (M1 wr B j) (wr.heap.size + 1) 0 (fun _ => False) := by
  have h := MapI.made ((wr.setCell ⟨B + 1, j, none⟩ (.map (some (wr.heap.size + 1)))).alloc (.cells #[.int .i64 (j : Int)] 3))
  have e : ((wr.setCell ⟨B + 1, j, none⟩ (.map (some (wr.heap.size + 1)))).alloc (.cells #[.int .i64 (j : Int)] 3)).heap.size = wr.heap.size + 1 := by simp
  rw [e] at h
  exact h
theorem M1_below {w : World} (h : Below w.heap.size w wr) : Below w.heap.size w (M1 wr w.heap.size j) := by
  have h1 := h.setCell (p := ⟨w.heap.size + 1, j, none⟩) (Nat.le_succ _) (.map (some (wr.heap.size + 1)))
  exact (h1.alloc h1.size _).alloc (h1.alloc h1.size _).size _
end
structure Waits (B N i : Nat) (Q : Nat → Int → Prop) (W : World) : Prop where
  there : ∀ j, j < N → ∃ v, W.cell? ⟨B + 1, j, none⟩ = some v
  soft : ∀ j, j < N → W.frozen? ⟨B + 1, j, none⟩ = false
  rows : ∀ j, j < i → ∃ b c, B + 2 < b ∧ c ≤ 1000000000000 ∧ W.cell? ⟨B + 1, j, none⟩ = some (.map (some b)) ∧ MapI W b c (Q j)
theorem Waits.round {B N j c : Nat} {Q : Nat → Int → Prop} {wr W' : World} (h : Waits B N j Q wr) (hj : j < N) (hB : B + 2 < wr.heap.size) (hg : (M1 wr B j).grownBy W' (some (wr.heap.size + 1))) (hc : c ≤ 1000000000000) (hr : MapI W' (wr.heap.size + 1) c (Q j)) : Waits B N (j + 1) Q W' := by
  have hat : ∀ o, W'.cell? ⟨B + 1, o, none⟩ = (wr.setCell ⟨B + 1, j, none⟩ (.map (some (wr.heap.size + 1)))).cell? ⟨B + 1, o, none⟩ := fun o =>
    (World.cell?_of_block (w := M1 wr B j) (hg.block (B + 1) (by rw [M1_size]; omega) (by simp; omega))).trans (M1_at (by omega) o).1
  have hfr : ∀ o, W'.frozen? ⟨B + 1, o, none⟩ = wr.frozen? ⟨B + 1, o, none⟩ := fun o =>
    (World.frozen?_of_block (w := M1 wr B j) (hg.block (B + 1) (by rw [M1_size]; omega) (by simp; omega))).trans (M1_at (by omega) o).2
  obtain ⟨v0, hv0⟩ := h.there j hj
  have hsame := World.cell?_setCell_same wr ⟨B + 1, j, none⟩ (.map (some (wr.heap.size + 1))) hv0
  have hoth : ∀ o, o ≠ j → (wr.setCell ⟨B + 1, j, none⟩ (.map (some (wr.heap.size + 1)))).cell? ⟨B + 1, o, none⟩ = wr.cell? ⟨B + 1, o, none⟩ := fun o ho =>
    World.cell?_setCell_other _ _ _ _ (by intro e; injection e with _ e _; exact ho e.symm)
  refine ⟨fun o ho => ?_, fun o ho => by rw [hfr]; exact h.soft o ho, fun o ho => ?_⟩
  · rw [hat]
    by_cases e : o = j
    · subst e; exact ⟨_, hsame⟩
    · rw [hoth o e]; exact h.there o ho
  · by_cases e : o = j
    · subst e
      exact ⟨wr.heap.size + 1, c, by omega, hc, by rw [hat]; exact hsame, hr⟩
    · obtain ⟨b, c', h1, h2, h3, h4⟩ := h.rows o (by omega)
      have := h4.lt
      refine ⟨b, c', h1, h2, by rw [hat, hoth o e]; exact h3, h4.block ?_⟩
      rw [hg.block b (by rw [M1_size]; omega) (by simp; omega), M1_old (by omega) (by omega)]
def waitQ (J : List (List Int)) (m of : List Int) (bl : List Nat) (n i : Nat) (x : Int) : Prop := ∃ e ∈ bl, ∃ f, f < n ∧ ndB J m e f = true ∧ rd of f = x ∧ x ≠ (i : Int)
theorem rd_ints {bl : List (List Nat)} {j : Nat} : rd_L4 (bl.map ints) (j : Int) = ints (bl.getD j []) := by
  unfold rd_L4
  rw [Int.toNat_natCast, List.getD_eq_getElem?_getD, List.getD_eq_getElem?_getD, List.getElem?_map]
  cases bl[j]? <;> rfl
theorem rd_int {l : List Nat} {q : Nat} : rd (ints l) (q : Int) = ((l.getD q 0 : Nat) : Int) := by
  unfold rd ints
  rw [Int.toNat_natCast, List.getD_eq_getElem?_getD, List.getD_eq_getElem?_getD, List.getElem?_map]
  cases l[q]? <;> rfl
theorem ints_len {l : List Nat} : (ints l).length = l.length := by simp [ints]
theorem block_len {n : Nat} {b : List Nat} (h : b.Pairwise (· < ·)) (hl : ∀ e ∈ b, e < n) : b.length ≤ n := by
  have := Blt.len_le b (List.range n) (h.imp (fun h => by omega)) (fun x hx => List.mem_range.2 (hl x hx))
  simpa using this
theorem waitQ_none {J : List (List Int)} {m of : List Int} {n i : Nat} {x : Int} : ¬ waitQ J m of [] n i x := fun ⟨_, h, _⟩ => by cases h
theorem wait_same {J : List (List Int)} {m of : List Int} {bl : List (List Nat)} {n i : Nat} {x : Int} (hB : Blocks n (ndB J m) bl) (hi : i < bl.length) (hofs : ∀ f, f < n → ∃ i : Nat, rd of f = i ∧ ∃ b, bl[i]? = some b ∧ f ∈ b) :
    waitQ J m of (bl.getD i []) n i x ↔ ∃ j : Nat, x = j ∧ j < bl.length ∧ waitB (ndB J m) bl i j = true := by
  have hgi : bl[i]? = some (bl.getD i []) := by rw [List.getD_eq_getElem?_getD, List.getElem?_eq_getElem hi]; rfl
  constructor
  · rintro ⟨e, he, f, hf, hn, hx, hne⟩
    obtain ⟨j, h1, b, h2, h3⟩ := hofs f hf
    have hj := (List.getElem?_eq_some_iff.1 h2).1
    refine ⟨j, by rw [← hx, h1], hj, ?_⟩
    unfold waitB
    rw [Bool.and_eq_true, bne_iff_ne, List.any_eq_true]
    refine ⟨fun e => hne (by rw [← hx, h1, e]), e, he, ?_⟩
    rw [List.any_eq_true, List.getD_eq_getElem?_getD, h2]
    exact ⟨f, h3, hn⟩
  · rintro ⟨j, rfl, hj, hw⟩
    unfold waitB at hw
    rw [Bool.and_eq_true, bne_iff_ne, List.any_eq_true] at hw
    obtain ⟨hne, e, he, hw⟩ := hw
    rw [List.any_eq_true] at hw
    obtain ⟨f, hf, hn⟩ := hw
    have hgj : bl[j]? = some (bl.getD j []) := by rw [List.getD_eq_getElem?_getD, List.getElem?_eq_getElem hj]; rfl
    have hfn := hB.lt j _ hgj f hf
    obtain ⟨j', h1, b, h2, h3⟩ := hofs f hfn
    obtain rfl := hB.one j' j b _ f h2 hgj h3 hf
    exact ⟨e, he, f, hfn, hn, h1, by omega⟩
theorem c_Rep {N : Nat} (hN : N ≤ 1000000) (w0 : World) : Calls Try.prog 46 #[.slice (some ⟨w0.heap.size, 0, none⟩) 1 1, .int .i64 (N : Int)] (w0.alloc (.cells #[.int .i64 (-1)] 3)) fun e w' =>
    ∃ A c, e = .returned (.slice A N c) ∧ Kd.R (Kd.int .i64) 3 w' (w0.heap.size + 1) (fun _ => True) (.slice A N c) (List.replicate N (-1)) ∧ Below (w0.heap.size + 1) (w0.alloc (.cells #[.int .i64 (-1)] 3)) w' := by
  have hr : Kd.C (Kd.int .i64) (w0.alloc (.cells #[.int .i64 (-1)] 3)) (some ⟨w0.heap.size, 0, none⟩) 1 [-1] := by
    refine ⟨rfl, by decide, fun _ => ⟨⟨w0.heap.size, 0, none⟩, rfl, fun j p hj => ?_⟩⟩
    match j, hj with
    | 0, hj =>
      obtain rfl := Option.some.inj hj
      refine ⟨[.int .i64 (-1)], rfl, rfl, fun i u hu => ?_⟩
      match i, hu with
      | 0, hu =>
        obtain rfl := Option.some.inj hu
        rw [Nat.zero_mul, add_plain, World.cell?_alloc_at _ _ _ _ rfl]; rfl
  have h := slices_Repeat_int_int.calls (some ⟨w0.heap.size, 0, none⟩) 1 [-1] (N : Int) (List.replicate N (-1)) _ hr (by decide) (by unfold slices_Repeat_int_int.f; rw [if_pos ⟨rfl, by omega, by omega⟩]; rfl)
  refine h.mono ?_
  rintro e w' ⟨v, rfl, h1, h2⟩
  have e1 : (w0.alloc (.cells #[.int .i64 (-1)] 3)).heap.size = w0.heap.size + 1 := by simp
  rw [e1] at h1 h2
  obtain ⟨A, c, rfl⟩ := Kd.R_slice h1
  rw [List.length_replicate] at h1 ⊢
  exact ⟨A, c, rfl, h1, h2⟩
def rawS : Kd (Option Addr × Nat × Nat) := Kd.scalar (fun p => .slice p.1 p.2.1 p.2.2) (fun _ => rfl)
structure Pl (wo : World) (N sb pb cp : Nat) (Ap : Option Addr) (P : List Int) (x4 : List (Option Addr × Nat × Nat)) (x6 : List (List Int)) (v4 v6 : Value) (W : World) : Prop where
  fr : wo.grownBy W (some sb)
  plen : P.length = N
  place : Kd.R (Kd.int .i64) 3 W wo.heap.size (fun k => k = pb) (.slice Ap N cp) P
  c4 : W.cell? ⟨sb, 4, none⟩ = some v4
  f4 : W.frozen? ⟨sb, 4, none⟩ = false
  c6 : W.cell? ⟨sb, 6, none⟩ = some v6
  f6 : W.frozen? ⟨sb, 6, none⟩ = false
  oth : ∀ o, o ≠ 4 → o ≠ 6 → W.cell? ⟨sb, o, none⟩ = wo.cell? ⟨sb, o, none⟩
  h4 : Kd.R rawS 31 W wo.heap.size (fun k => k ≠ pb) v4 x4
  h6 : (Kd.slice 3 (Kd.int .i64)).R 31 W wo.heap.size (fun k => k ≠ pb ∧ some k ≠ v4.ownBlock) v6 x6
  pb1 : wo.heap.size ≤ pb
  pb2 : pb < W.heap.size
  sb1 : sb < wo.heap.size
theorem R_old {α : Type} {d : Kd α} {e base : Nat} {ok : Nat → Prop} {W : World} {v : Value} {xs : List α} (h : d.R e W base ok v xs) {p : Addr} (hp : p.block < base) (u : Value) : d.R e (W.setCell p u) base ok v xs :=
  Kd.R_mono (Kd.R_far (p := p) (Kd.R_bound h) (fun k hk => by have := hk.2.1; omega) u) (fun _ hk => hk.1)
theorem frozen_grown {W W' : World} {row : Option Nat} {a : Addr} (h : a.block < W.heap.size) (hg : W.grownBy W' row) (hne : some a.block ≠ row) : W'.frozen? a = W.frozen? a := World.frozen?_of_block (hg.block a.block h hne)
theorem cell_grown' {W W' : World} {row : Option Nat} {a : Addr} (h : a.block < W.heap.size) (hg : W.grownBy W' row) (hne : some a.block ≠ row) : W'.cell? a = W.cell? a := World.cell?_of_block (hg.block a.block h hne)
section
variable {wo : World} {N sb pb cp : Nat} {Ap : Option Addr} {P : List Int} {x4 : List (Option Addr × Nat × Nat)} {x6 : List (List Int)} {v4 v6 : Value} {W W' : World}
theorem Pl.sbl (h : Pl wo N sb pb cp Ap P x4 x6 v4 v6 W) : sb < W.heap.size := Nat.lt_of_lt_of_le h.sb1 h.fr.size
theorem Pl.below (h : Pl wo N sb pb cp Ap P x4 x6 v4 v6 W) (hb : Below W.heap.size W W') : Pl wo N sb pb cp Ap P x4 x6 v4 v6 W' :=
  { fr := h.fr.trans (grown_of_below hb _)
    plen := h.plen
    place := Kd.R_below h.place hb
    c4 := pw_cell_below hb h.c4
    f4 := (hb.frozen (by exact h.sbl)).trans h.f4
    c6 := pw_cell_below hb h.c6
    f6 := (hb.frozen (by exact h.sbl)).trans h.f6
    oth := fun o h1 h2 => (hb.cell (by exact h.sbl)).trans (h.oth o h1 h2)
    h4 := Kd.R_below h.h4 hb
    h6 := Kd.R_below h.h6 hb
    pb1 := h.pb1
    pb2 := Nat.lt_of_lt_of_le h.pb2 hb.size
    sb1 := h.sb1 }
theorem Pl.form (h : Pl wo N sb pb cp Ap P x4 x6 v4 v6 W) (hN : 0 < N) : Ap = some ⟨pb, 0, none⟩ := by
  obtain ⟨g, cap, h1, _⟩ := Kd.R_form h.place (by rw [h.plen]; exact hN)
  injection h1 with h1
  have := h.place.1 g (by rw [h1]; rfl)
  rw [h1, this]
theorem Pl.place' (h : Pl wo N sb pb cp (some ⟨pb, 0, none⟩) P x4 x6 v4 v6 W) : Kd.R (Kd.int .i64) 3 W wo.heap.size (fun k => k = pb) (.slice (some ⟨pb, 0, none⟩) P.length cp) P := by
  rw [h.plen]
  exact h.place
theorem Pl.cell (h : Pl wo N sb pb cp (some ⟨pb, 0, none⟩) P x4 x6 v4 v6 W) {i : Nat} (hi : i < N) : W.cell? ⟨pb, i, none⟩ = some (.int .i64 (rd P i)) ∧ W.frozen? ⟨pb, i, none⟩ = false := by
  have h2 := Kd.R_cell (enc := Value.int .i64) (h1 := fun _ => rfl) 0 h.place' (i : Int) (by omega) (by rw [h.plen]; omega)
  rw [Int.toNat_natCast] at h2
  exact h2
theorem Pl.reads (h : Pl wo N sb pb cp Ap P x4 x6 v4 v6 W) : Kd.C (Kd.int .i64) W Ap N P := by
  have := (Kd.R_reads' h.place).2.2
  rw [h.plen] at this
  exact this
theorem Pl.put (h : Pl wo N sb pb cp (some ⟨pb, 0, none⟩) P x4 x6 v4 v6 W) (i : Nat) (x : Int) : Pl wo N sb pb cp (some ⟨pb, 0, none⟩) (P.set i x) x4 x6 v4 v6 (W.setCell ⟨pb, i, none⟩ (.int .i64 x)) := by
  have hp := Kd.R_put (enc := Value.int .i64) (h1 := fun _ => rfl) h.place' (i : Int) x
  rw [Int.toNat_natCast] at hp
  have hne : some sb ≠ some pb := by have := h.pb1; have := h.sb1; simp; omega
  exact {
    fr := h.fr.andThen hp.2 (fun k hk => by cases hk; exact .inl h.pb1)
    plen := by rw [List.length_set]; exact h.plen
    place := by have := hp.1; rw [h.plen] at this; exact this
    c4 := (cell_grown' h.sbl hp.2 hne).trans h.c4
    f4 := (frozen_grown h.sbl hp.2 hne).trans h.f4
    c6 := (cell_grown' h.sbl hp.2 hne).trans h.c6
    f6 := (frozen_grown h.sbl hp.2 hne).trans h.f6
    oth := fun o h1 h2 => (cell_grown' h.sbl hp.2 hne).trans (h.oth o h1 h2)
    h4 := Kd.R_grown h.h4 hp.2 (fun k hk => by simpa using hk)
    h6 := Kd.R_grown h.h6 hp.2 (fun k hk => by simpa using hk.1)
    pb1 := h.pb1
    pb2 := Nat.lt_of_lt_of_le h.pb2 hp.2.size
    sb1 := h.sb1 }
theorem Pl.app4 (h : Pl wo N sb pb cp Ap P x4 x6 v4 v6 W) {w1 : World} {v1 : Value} {x : Option Addr × Nat × Nat} (hr : Kd.R rawS 31 w1 wo.heap.size (fun k => k ≠ pb) v1 (x4 ++ [x])) (hg : W.grownBy w1 v4.ownBlock) (hat : v1.ownBlock = v4.ownBlock ∨ ∃ b, v1.ownBlock = some b ∧ W.heap.size ≤ b) :
    Pl wo N sb pb cp Ap P (x4 ++ [x]) x6 v1 v6 (w1.setCell ⟨sb, 4, none⟩ v1) := by
  have hb4 : ∀ k, v4.ownBlock = some k → wo.heap.size ≤ k := Kd.R_base h.h4
  have hs4 : some sb ≠ v4.ownBlock := fun e => by have := hb4 sb e.symm; have := h.sb1; omega
  have hp4 : some pb ≠ v4.ownBlock := fun e => h.h4.1 pb e.symm rfl
  have hc4 := (cell_grown' h.sbl hg hs4).trans h.c4
  have hoth : ∀ o, o ≠ 4 → (w1.setCell ⟨sb, 4, none⟩ v1).cell? ⟨sb, o, none⟩ = W.cell? ⟨sb, o, none⟩ := fun o ho =>
    (World.cell?_setCell_other _ _ _ _ (by intro e; injection e with _ e _; exact ho e.symm)).trans (cell_grown' h.sbl hg hs4)
  have hsz : (w1.setCell ⟨sb, 4, none⟩ v1).heap.size = w1.heap.size := by simp
  exact {
    fr := ⟨((Below.refl 0 w1).setCell (Nat.zero_le _) v1).os.trans (hg.os.trans h.fr.os), ((Below.refl 0 w1).setCell (Nat.zero_le _) v1).tape.trans (hg.tape.trans h.fr.tape), ((Below.refl 0 w1).setCell (Nat.zero_le _) v1).output.trans (hg.output.trans h.fr.output), by rw [hsz]; exact Nat.le_trans h.fr.size hg.size, fun k hk hne => by
      rw [Below.heap_setCell _ _ _ _ (by simpa using hne), hg.block k (Nat.lt_of_lt_of_le hk h.fr.size) (fun e => by have := hb4 k e.symm; omega)]
      exact h.fr.block k hk hne⟩
    plen := h.plen
    place := R_old (Kd.R_grown h.place hg (fun k hk => hk ▸ hp4)) h.sb1 _
    c4 := World.cell?_setCell_same _ _ _ hc4
    f4 := by rw [World.frozen?_setCell]; exact (frozen_grown h.sbl hg hs4).trans h.f4
    c6 := (hoth 6 (by decide)).trans h.c6
    f6 := by rw [World.frozen?_setCell]; exact (frozen_grown h.sbl hg hs4).trans h.f6
    oth := fun o h1 h2 => (hoth o h1).trans (h.oth o h1 h2)
    h4 := R_old hr h.sb1 _
    h6 := R_old (Kd.R_after h.h6 hg hat) h.sb1 _
    pb1 := h.pb1
    pb2 := by rw [hsz]; exact Nat.lt_of_lt_of_le h.pb2 hg.size
    sb1 := h.sb1 }
theorem Pl.app6 (h : Pl wo N sb pb cp Ap P x4 x6 v4 v6 W) {w1 : World} {v1 : Value} {x : List Int} (hr : (Kd.slice 3 (Kd.int .i64)).R 31 w1 wo.heap.size (fun k => k ≠ pb ∧ some k ≠ v4.ownBlock) v1 (x6 ++ [x])) (hg : W.grownBy w1 v6.ownBlock) :
    Pl wo N sb pb cp Ap P x4 (x6 ++ [x]) v4 v1 (w1.setCell ⟨sb, 6, none⟩ v1) := by
  have hb6 : ∀ k, v6.ownBlock = some k → wo.heap.size ≤ k := Kd.R_base h.h6
  have hs6 : some sb ≠ v6.ownBlock := fun e => by have := hb6 sb e.symm; have := h.sb1; omega
  have hp6 : some pb ≠ v6.ownBlock := fun e => (h.h6.1 pb e.symm).1 rfl
  have h46 : ∀ k, v4.ownBlock = some k → some k ≠ v6.ownBlock := fun k hk e => (h.h6.1 k e.symm).2 hk.symm
  have hc6 := (cell_grown' h.sbl hg hs6).trans h.c6
  have hoth : ∀ o, o ≠ 6 → (w1.setCell ⟨sb, 6, none⟩ v1).cell? ⟨sb, o, none⟩ = W.cell? ⟨sb, o, none⟩ := fun o ho =>
    (World.cell?_setCell_other _ _ _ _ (by intro e; injection e with _ e _; exact ho e.symm)).trans (cell_grown' h.sbl hg hs6)
  have hsz : (w1.setCell ⟨sb, 6, none⟩ v1).heap.size = w1.heap.size := by simp
  exact {
    fr := ⟨((Below.refl 0 w1).setCell (Nat.zero_le _) v1).os.trans (hg.os.trans h.fr.os), ((Below.refl 0 w1).setCell (Nat.zero_le _) v1).tape.trans (hg.tape.trans h.fr.tape), ((Below.refl 0 w1).setCell (Nat.zero_le _) v1).output.trans (hg.output.trans h.fr.output), by rw [hsz]; exact Nat.le_trans h.fr.size hg.size, fun k hk hne => by
      rw [Below.heap_setCell _ _ _ _ (by simpa using hne), hg.block k (Nat.lt_of_lt_of_le hk h.fr.size) (fun e => by have := hb6 k e.symm; omega)]
      exact h.fr.block k hk hne⟩
    plen := h.plen
    place := R_old (Kd.R_grown h.place hg (fun k hk => hk ▸ hp6)) h.sb1 _
    c4 := (hoth 4 (by decide)).trans h.c4
    f4 := by rw [World.frozen?_setCell]; exact (frozen_grown h.sbl hg hs6).trans h.f4
    c6 := World.cell?_setCell_same _ _ _ hc6
    f6 := by rw [World.frozen?_setCell]; exact (frozen_grown h.sbl hg hs6).trans h.f6
    oth := fun o h1 h2 => (hoth o h2).trans (h.oth o h1 h2)
    h4 := R_old (Kd.R_of_own (h1 := fun _ => rfl) (own_other (Kd.own_of_R h.h4) hg (by
      cases hv : v4.ownBlock with
      | none => exact .inl rfl
      | some k => exact .inr (h46 k hv))) h.h4.1) h.sb1 _
    h6 := R_old hr h.sb1 _
    pb1 := h.pb1
    pb2 := by rw [hsz]; exact Nat.lt_of_lt_of_le h.pb2 hg.size
    sb1 := h.sb1 }
end
theorem rd_place {N i : Nat} {seq : List Nat} (hi : i < N) : rd (placeL N seq) (i : Int) = posL seq i := by
  rw [rd, Int.toNat_natCast, Blt.placeL_at hi]
end Go.Proofs.Ytmfcefakpfbaoaa.PMatch
end
