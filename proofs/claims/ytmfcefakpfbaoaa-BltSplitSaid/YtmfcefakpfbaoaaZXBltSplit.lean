/- Further lemmas for the statement BltSplit: merged by wip/extra.py. -/
import Derived.Test.YtmfcefakpfbaoaaZBmV
import Derived.Test.YtmfcefakpfbaoaaZBmT
import Derived.Calls
section
set_option linter.unusedVariables false
set_option linter.unusedSimpArgs false
namespace Go.Proofs.Ytmfcefakpfbaoaa.Blt
section
variable (R : Nat → Nat → Prop)
end
section
variable {R : Nat → Nat → Prop} {a b c n : Nat}
end
section
variable {n : Nat} {nd : Nat → Nat → Bool} {e : Nat}
end
section
variable (n : Nat) (nd : Nat → Nat → Bool)
end
section
variable {n : Nat} {nd : Nat → Nat → Bool} {e f g : Nat}
end
section
variable {n : Nat} {nd : Nat → Nat → Bool}
theorem way_out {b : List Nat} (hb : ∀ e ∈ b, e < n ∧ ∀ f, f < n → (f ∈ b ↔ Same (Rel n nd) e f)) {S : Nat → Prop} {a g : Nat} (h : Reach (Rel n nd) a g) :
    a ∈ b → S a → g ∈ b → ¬ S g → ∃ e f, e ∈ b ∧ f ∈ b ∧ S e ∧ ¬ S f ∧ nd e f = true := by
  induction h with
  | one h => exact fun ha hs hg hn => ⟨_, _, ha, hg, hs, hn, h.2.2⟩
  | @more a x g h hr ih =>
    intro ha hs hg hn
    have hx : x ∈ b := by
      refine ((hb a ha).2 x h.2.1).2 ?_
      rcases ((hb a ha).2 g (hb g hg).1).1 hg with e | ⟨_, h2⟩
      · exact .inr ⟨.one h, by rw [e]; exact hr⟩
      · exact .inr ⟨.one h, hr.trans h2⟩
    by_cases hsx : S x
    · exact ih hx hsx hg hn
    · exact ⟨a, x, ha, hx, hs, hsx, h.2.2⟩
theorem split_out {b : List Nat} (hb : ∀ e ∈ b, e < n ∧ ∀ f, f < n → (f ∈ b ↔ Same (Rel n nd) e f)) {S : Nat → Prop} (h1 : ∃ e ∈ b, S e) (h2 : ∃ e ∈ b, ¬ S e) :
    ∃ e f, e ∈ b ∧ f ∈ b ∧ S e ∧ ¬ S f ∧ nd e f = true := by
  obtain ⟨a, ha, hs⟩ := h1
  obtain ⟨g, hg, hn⟩ := h2
  rcases ((hb a ha).2 g (hb g hg).1).1 hg with e | ⟨h, _⟩
  · exact absurd (e ▸ hs) hn
  · exact way_out hb h ha hs hg hn
theorem more_uses {b : List Nat} (hb : ∀ e ∈ b, e < n ∧ ∀ f, f < n → (f ∈ b ↔ Same (Rel n nd) e f)) (S : Nat → Bool) (h1 : ∃ e ∈ b, S e = true) (h2 : ∃ e ∈ b, S e = false) :
    b.countP S < b.countP fun f => S f || b.any fun e => S e && nd e f := by
  refine countP_lt (fun x _ hx => by rw [hx]; rfl) ?_
  obtain ⟨e, f, he, hf, hs, hn, hnd⟩ := split_out hb (S := fun e => S e = true) h1 (by obtain ⟨e, he, hs⟩ := h2; exact ⟨e, he, by rw [hs]; simp⟩)
  exact ⟨f, hf, by rw [Bool.or_eq_true, List.any_eq_true]; exact .inr ⟨e, he, by rw [hs, hnd]; rfl⟩, by simpa using hn⟩
end
section
variable (n : Nat) (nd : Nat → Nat → Bool)
end
section
variable {n : Nat} {nd : Nat → Nat → Bool}
end
end Go.Proofs.Ytmfcefakpfbaoaa.Blt
end
section
set_option linter.unusedVariables false
set_option linter.unusedSimpArgs false
namespace Go.Proofs.Ytmfcefakpfbaoaa.PMatch
open Go.RowKit Go.Proofs.YtmfcefakpfbaoaaW.PrintWords Go.Proofs.YtmfcefakpfbaoaaW.PrintLast Go.Proofs.YtmfcefakpfbaoaaW.PrintMore
open Blt (ints blocks0 blocksB needsB seqB posL ofB ofBL)
structure RowV (g n : Nat) (F : Nat → Value) (W : World) : Prop where
  cell : ∀ e : Nat, e < n → W.cell? ⟨g, e, none⟩ = some (F e)
  soft : ∀ e : Nat, e < n → W.frozen? ⟨g, e, none⟩ = false
  here : g < W.heap.size
def updV (F : Nat → Value) (e : Nat) (x : Value) (k : Nat) : Value := if k = e then x else F k
theorem RowV.put {g n : Nat} {F : Nat → Value} {W : World} (h : RowV g n F W) {e : Nat} (he : e < n) (x : Value) : RowV g n (updV F e x) (W.setCell ⟨g, e, none⟩ x) := by
  refine ⟨fun k hk => ?_, fun k hk => by rw [World.frozen?_setCell]; exact h.soft k hk, by simpa using h.here⟩
  by_cases e1 : k = e
  · subst e1
    rw [World.cell?_setCell_same _ _ _ (h.cell k he)]
    simp [updV]
  · rw [World.cell?_setCell_other _ _ _ _ (by intro e2; injection e2 with _ e2 _; exact e1 e2.symm), h.cell k hk]
    simp [updV, e1]
theorem RowV.far {g n : Nat} {F : Nat → Value} {W : World} (h : RowV g n F W) {g' : Nat} (hg : g' ≠ g) (o : Nat) (v : Value) : RowV g n F (W.setCell ⟨g', o, none⟩ v) := by
  refine ⟨fun k hk => ?_, fun k hk => by rw [World.frozen?_setCell]; exact h.soft k hk, by simpa using h.here⟩
  rw [World.cell?_setCell_other _ _ _ _ (by intro e2; injection e2 with e2 _ _; exact hg e2), h.cell k hk]
theorem RowV.below {g n : Nat} {F : Nat → Value} {W W' : World} (h : RowV g n F W) (hb : Below W.heap.size W W') : RowV g n F W' :=
  ⟨fun k hk => pw_cell_below hb (h.cell k hk), fun k hk => (hb.frozen (by exact h.here)).trans (h.soft k hk), Nat.lt_of_lt_of_le h.here hb.size⟩
theorem RowV.drew {g n : Nat} {F : Nat → Value} {W : World} (h : RowV g n F W) : RowV g n F W.drew := ⟨fun k hk => by rw [World.cell?_drew]; exact h.cell k hk, fun k hk => by rw [World.frozen?_drew]; exact h.soft k hk, by simpa using h.here⟩
theorem RowV.grown {g n : Nat} {F : Nat → Value} {W W' : World} (h : RowV g n F W) {row : Option Nat} (hg : W.grownBy W' row) (hne : row ≠ some g) : RowV g n F W' :=
  ⟨fun k hk => (cell_grown' (by exact h.here) hg (by exact fun e => hne e.symm)).trans (h.cell k hk), fun k hk => (frozen_grown (by exact h.here) hg (by exact fun e => hne e.symm)).trans (h.soft k hk), Nat.lt_of_lt_of_le h.here hg.size⟩
theorem RowV.congr {g n : Nat} {F G : Nat → Value} {W : World} (h : RowV g n F W) (he : ∀ k, k < n → F k = G k) : RowV g n G W := ⟨fun k hk => by rw [h.cell k hk, he k hk], h.soft, h.here⟩
section
variable {U : List S47} {A1 : Option Addr} {c1 : Nat} {w : World}
end
end Go.Proofs.Ytmfcefakpfbaoaa.PMatch
end
section
set_option linter.unusedVariables false
set_option linter.unusedSimpArgs false
namespace Go.Proofs.Ytmfcefakpfbaoaa.PMatch
open Go.RowKit Go.Proofs.YtmfcefakpfbaoaaW.PrintWords Go.Proofs.YtmfcefakpfbaoaaW.PrintLast Go.Proofs.YtmfcefakpfbaoaaW.PrintMore
open Blt (ints blocksB needsB levelsB)
theorem bits_some {n s : Nat} (h0 : 1 ≤ s) (h1 : s < 2 ^ n) : ∃ j, j < n ∧ s.testBit j = true := by
  apply Classical.byContradiction
  intro h
  have h2 : s = 0 := by
    apply Nat.eq_of_testBit_eq
    intro j
    rw [Nat.zero_testBit]
    by_cases hj : j < n
    · cases hb : s.testBit j
      · rfl
      · exact absurd ⟨j, hj, hb⟩ h
    · exact Nat.testBit_lt_two_pow (Nat.lt_of_lt_of_le h1 (Nat.pow_le_pow_right (by decide) (by omega)))
  omega
theorem bits_none {n s : Nat} (h1 : s < 2 ^ n - 1) : ∃ j, j < n ∧ s.testBit j = false := by
  apply Classical.byContradiction
  intro h
  have h2 : s = 2 ^ n - 1 := by
    apply Nat.eq_of_testBit_eq
    intro j
    rw [Nat.testBit_two_pow_sub_one]
    by_cases hj : j < n
    · rw [decide_eq_true hj]
      cases hb : s.testBit j
      · exact absurd ⟨j, hj, hb⟩ h
      · rfl
    · rw [decide_eq_false hj]
      exact Nat.testBit_lt_two_pow (Nat.lt_of_lt_of_le (show s < 2 ^ n by omega) (Nat.pow_le_pow_right (by decide) (by omega)))
  omega
def Hit (J : List (List Int)) (G : Nat → Int) (b : Nat) (bb : List Nat) (s i k u : Nat) : Prop :=
  ∃ j q : Nat, q < (rd_L4 J (bb.getD j 0)).length ∧ rd (rd_L4 J (bb.getD j 0)) q = u ∧ G u = b ∧ s.testBit j = true ∧ (j < i ∨ (j = i ∧ q < k))
def updB (I : Nat → Bool) (e k : Nat) : Bool := if k = e then true else I k
theorem count_upd {n e : Nat} {I : Nat → Bool} (he : e < n) (hI : I e = false) : (List.range n).countP (updB I e) = (List.range n).countP I + 1 := by
  induction n with
  | zero => omega
  | succ n ih =>
    rw [List.range_succ, List.countP_append, List.countP_append]
    by_cases h : e = n
    · subst h
      have h1 : (List.range e).countP (updB I e) = (List.range e).countP I := by
        apply List.countP_congr
        intro x hx
        have := List.mem_range.1 hx
        rw [updB, if_neg (by omega)]
      rw [h1]
      simp [updB, hI]
    · have h1 := ih (by omega)
      rw [h1]
      simp [updB, show ¬ n = e from fun h' => h h'.symm]
      omega
theorem getD_lt {l : List Nat} {j : Nat} (h : j < l.length) : l.getD j 0 ∈ l := by
  rw [List.getD_eq_getElem?_getD, List.getElem?_eq_getElem h]; exact List.getElem_mem _
theorem getD_inj {l : List Nat} {i j : Nat} (hn : l.Nodup) (hi : i < l.length) (hj : j < l.length) (h : l.getD i 0 = l.getD j 0) : i = j := by
  rw [List.getD_eq_getElem?_getD, List.getElem?_eq_getElem hi, List.getD_eq_getElem?_getD, List.getElem?_eq_getElem hj] at h
  exact Blt.getElem?_inj hn (List.getElem?_eq_getElem hi) (by rw [List.getElem?_eq_getElem hj]; exact congrArg some h.symm)
section
variable {E : List ByteArray} {U : List S47} {J : List (List Int)} {m : List Int}
theorem split_law (h : Solv E U J m) {b : Nat} {bb : List Nat} (hb : (blocksB E.length (ndB J m))[b]? = some bb) {s : Nat} (h0 : 1 ≤ s) (h1 : s < 2 ^ bb.length - 1) {I : Nat → Bool} {G : Nat → Int}
    (hI : ∀ u, u < U.length → (I u = true ↔ Hit J G b bb s bb.length 0 u)) (hG : ∀ e : Nat, e < E.length → G (rd m e).toNat = (blkI (blocksB E.length (ndB J m)) e : Nat)) :
    (List.range bb.length).countP s.testBit < (List.range U.length).countP I := by
  have hsp := Blt.blocksB_spec (n := E.length) (nd := ndB J m)
  have hnd : bb.Nodup := (hsp.rises b bb hb).imp (fun h => by omega)
  have hS : ∃ S : Nat → Bool, ∀ j, j < bb.length → S (bb.getD j 0) = s.testBit j := by
    refine ⟨fun e => (List.range bb.length).any fun j => bb.getD j 0 == e && s.testBit j, fun j hj => ?_⟩
    rw [Bool.eq_iff_iff, List.any_eq_true]
    constructor
    · rintro ⟨i, hi, h2⟩
      rw [Bool.and_eq_true, beq_iff_eq] at h2
      rw [← getD_inj hnd (List.mem_range.1 hi) hj h2.1]
      exact h2.2
    · intro h2
      exact ⟨j, List.mem_range.2 hj, by rw [h2]; simp⟩
  obtain ⟨S, hS⟩ := hS
  have hmem : ∀ e ∈ bb, ∃ j, j < bb.length ∧ bb.getD j 0 = e := fun e he => by
    obtain ⟨j, hj⟩ := List.getElem?_of_mem he
    exact ⟨j, (List.getElem?_eq_some_iff.1 hj).1, by rw [List.getD_eq_getElem?_getD, hj]; rfl⟩
  have hc : bb.countP S = (List.range bb.length).countP s.testBit := by
    have e1 : bb = (List.range bb.length).map fun j => bb.getD j 0 := by
      apply List.ext_getElem
      · simp
      · intro i h2 h3
        simp [List.getD_eq_getElem?_getD, h2]
    conv => lhs; rw [e1]
    rw [List.countP_map]
    apply List.countP_congr
    intro j hj
    have := hS j (List.mem_range.1 hj)
    simp only [Function.comp]
    rw [this]
  have hmore := Blt.more_uses (n := E.length) (nd := ndB J m) (b := bb) (fun e he => ⟨hsp.lt b bb hb e he, fun f hf => hsp.same b bb hb e he f hf⟩) S
    (by obtain ⟨j, hj, h2⟩ := bits_some h0 (by omega : s < 2 ^ bb.length); exact ⟨_, getD_lt hj, by rw [hS j hj]; exact h2⟩)
    (by obtain ⟨j, hj, h2⟩ := bits_none h1; exact ⟨_, getD_lt hj, by rw [hS j hj]; exact h2⟩)
  rw [hc] at hmore
  refine Nat.lt_of_lt_of_le hmore ?_
  rw [List.countP_eq_length_filter, List.countP_eq_length_filter]
  have hlt : ∀ f ∈ bb, f < E.length := fun f hf => hsp.lt b bb hb f hf
  have key := Blt.len_le ((bb.filter fun f => S f || bb.any fun e => S e && ndB J m e f).map fun (f : Nat) => (rd m f).toNat) ((List.range U.length).filter I) (by
    rw [List.Nodup, List.pairwise_map]
    refine (hnd.filter _).imp_of_mem (fun {x y} hx hy hxy e => hxy ?_)
    have hx' := hlt x (List.mem_filter.1 hx).1
    have hy' := hlt y (List.mem_filter.1 hy).1
    have := h.ns x hx'
    have := h.ns y hy'
    exact h.inj x y hx' hy' (by omega)) (fun u hu => by
    obtain ⟨f, hf, rfl⟩ := List.mem_map.1 hu
    obtain ⟨hfb, hT⟩ := List.mem_filter.1 hf
    have hfn := hlt f hfb
    have hns := h.ns f hfn
    have hgf : G (rd m f).toNat = b := by
      rw [hG f hfn, parts_blocks.at_ b bb hb f hfb]
    refine List.mem_filter.2 ⟨List.mem_range.2 (by omega), (hI _ (by omega)).2 ?_⟩
    rw [Bool.or_eq_true, List.any_eq_true] at hT
    rcases hT with hT | ⟨e, he, hT⟩
    · obtain ⟨j, hj, rfl⟩ := hmem f hfb
      rcases (h.valid.out h.matched).row _ hfn with h4 | ⟨⟨q, hq, h5⟩, _⟩
      · have := hns.1; omega
      · exact ⟨j, q, hq, by rw [h5]; omega, hgf, by rw [← hS j hj]; exact hT, .inl hj⟩
    · rw [Bool.and_eq_true] at hT
      obtain ⟨j, hj, rfl⟩ := hmem e he
      unfold ndB at hT
      rw [Bool.and_eq_true, decide_eq_true_eq] at hT
      obtain ⟨q, hq, h5⟩ := mem_rd.1 hT.2.2
      exact ⟨j, q, hq, by rw [h5]; omega, hgf, by rw [← hS j hj]; exact hT.1, .inl hj⟩)
  rw [List.length_map] at key
  exact key
end
end Go.Proofs.Ytmfcefakpfbaoaa.PMatch
end
