/- Lemmas for RowBltAny. -/
import Derived.Test.YtmfcefakpfbaoaaZBmM
import Derived.Test.YtmfcefakpfbaoaaZBmO
import Derived.Test.YtmfcefakpfbaoaaZBnC
section
set_option linter.unusedVariables false
set_option linter.unusedSimpArgs false
namespace Go.Proofs.Ytmfcefakpfbaoaa.PMatch
open Go.RowKit Go.Proofs.YtmfcefakpfbaoaaW.PrintWords Go.Proofs.YtmfcefakpfbaoaaW.PrintLast Go.Proofs.YtmfcefakpfbaoaaW.PrintMore
open Blt (ints blocksB needsB levelsB waitB blocks0 sameB leadB Rel Same orderB pickB seqB)
def ndM (A : Nat → Nat → Bool) (M : Nat → Nat) (e f : Nat) : Bool := f != e && A e (M f)
section
variable {n : Nat} {A : Nat → Nat → Bool} {M M' : Nat → Nat}
structure Full (n : Nat) (A : Nat → Nat → Bool) (M : Nat → Nat) : Prop where
  lt : ∀ e, e < n → M e < n
  at_ : ∀ e, e < n → A e (M e) = true
  inj : ∀ e f, e < n → f < n → M e = M f → e = f
theorem Full.sur (h : Full n A M) {u : Nat} (hu : u < n) : ∃ f, f < n ∧ M f = u := by
  apply Classical.byContradiction
  intro hno
  have h2 := Blt.len_le (u :: (List.range n).map M) (List.range n) (by
    rw [List.nodup_cons]
    refine ⟨fun hx => ?_, ?_⟩
    · obtain ⟨e, he, h3⟩ := List.mem_map.1 hx
      exact hno ⟨e, List.mem_range.1 he, h3⟩
    · rw [List.Nodup, List.pairwise_map]
      exact (List.pairwise_lt_range (n := n)).imp_of_mem (fun {a b} ha hb hab e => by
        have := h.inj a b (List.mem_range.1 ha) (List.mem_range.1 hb) e
        omega)) (fun x hx => by
    rw [List.mem_range]
    rcases List.mem_cons.1 hx with rfl | hx
    · exact hu
    · obtain ⟨e, he, rfl⟩ := List.mem_map.1 hx
      exact h.lt e (List.mem_range.1 he))
  simp at h2
  omega
theorem partner (h : Full n A M) (h' : Full n A M') {f : Nat} (hf : f < n) : ∃ f', f' < n ∧ M' f' = M f ∧ (f' = f ∨ (Blt.Reach (Rel n (ndM A M')) f f' ∧ Blt.Reach (Rel n (ndM A M')) f' f)) := by
  have hp : ∀ x, ∃ y, x < n → y < n ∧ M' y = M x := fun x => by
    by_cases hx : x < n
    · obtain ⟨y, h1, h2⟩ := h'.sur (h.lt x hx)
      exact ⟨y, fun _ => ⟨h1, h2⟩⟩
    · exact ⟨0, fun h => absurd h hx⟩
  obtain ⟨p, hp⟩ : ∃ p : Nat → Nat, ∀ x, x < n → p x < n ∧ M' (p x) = M x := ⟨fun x => Classical.choose (hp x), fun x hx => Classical.choose_spec (hp x) hx⟩
  have hinj : ∀ x y, x < n → y < n → p x = p y → x = y := fun x y hx hy e => h.inj x y hx hy (by rw [← (hp x hx).2, ← (hp y hy).2, e])
  have hstep : ∀ x, x < n → p x = x ∨ Rel n (ndM A M') x (p x) := fun x hx => by
    by_cases e : p x = x
    · exact .inl e
    · refine .inr ⟨hx, (hp x hx).1, ?_⟩
      unfold ndM
      rw [Bool.and_eq_true, bne_iff_ne]
      exact ⟨e, by rw [(hp x hx).2]; exact h.at_ x hx⟩
  refine ⟨p f, (hp f hf).1, (hp f hf).2, ?_⟩
  rcases hstep f hf with h1 | h1
  · exact .inl h1
  · refine .inr ⟨.one h1, ?_⟩
    -- what p f leads to, itself with it, is shut under p; so f is in it
    apply Classical.byContradiction
    intro hno
    classical
    obtain ⟨S, hS⟩ : ∃ S : List Nat, S = (List.range n).filter fun x => decide (x = p f ∨ Blt.Reach (Rel n (ndM A M')) (p f) x) := ⟨_, rfl⟩
    have hmem : ∀ x, x ∈ S ↔ x < n ∧ (x = p f ∨ Blt.Reach (Rel n (ndM A M')) (p f) x) := fun x => by rw [hS, List.mem_filter, List.mem_range, decide_eq_true_eq]
    have hcl : ∀ x ∈ S, p x ∈ S := fun x hx => by
      obtain ⟨h2, h3⟩ := (hmem x).1 hx
      refine (hmem _).2 ⟨(hp x h2).1, ?_⟩
      rcases hstep x h2 with h4 | h4
      · rw [h4]; exact h3
      · rcases h3 with rfl | h3
        · exact .inr (.one h4)
        · exact .inr (h3.snoc h4)
    have h2 := Blt.len_le (p f :: S.map p) S (by
      rw [List.nodup_cons]
      refine ⟨fun hx => ?_, ?_⟩
      · obtain ⟨x, hx, h3⟩ := List.mem_map.1 hx
        obtain ⟨h4, h5⟩ := (hmem x).1 hx
        have := hinj x f h4 hf h3
        subst this
        rcases h5 with h5 | h5
        · exact absurd h1.2.2 (by unfold ndM; rw [← h5]; simp)
        · exact hno h5
      · rw [List.Nodup, List.pairwise_map]
        have hn : S.Nodup := by rw [hS]; exact List.nodup_range.filter _
        refine hn.imp_of_mem (fun {x y} hx hy hxy e => hxy ?_)
        exact hinj x y ((hmem x).1 hx).1 ((hmem y).1 hy).1 e) (fun x hx => by
      rcases List.mem_cons.1 hx with rfl | hx
      · exact (hmem _).2 ⟨(hp f hf).1, .inl rfl⟩
      · obtain ⟨y, hy, rfl⟩ := List.mem_map.1 hx
        exact hcl y hy)
    simp at h2
    omega
theorem step_any (h : Full n A M) (h' : Full n A M') {e f : Nat} (hr : Rel n (ndM A M) e f) : e = f ∨ Blt.Reach (Rel n (ndM A M')) e f := by
  obtain ⟨he, hf, hnd⟩ := hr
  obtain ⟨f', h1, h2, h3⟩ := partner h h' hf
  unfold ndM at hnd
  rw [Bool.and_eq_true] at hnd
  by_cases e1 : f' = e
  · subst e1
    rcases h3 with h3 | ⟨_, h3⟩
    · exact .inl h3
    · exact .inr h3
  · have h4 : Rel n (ndM A M') e f' := ⟨he, h1, by unfold ndM; rw [Bool.and_eq_true, bne_iff_ne]; exact ⟨e1, by rw [h2]; exact hnd.2⟩⟩
    rcases h3 with rfl | ⟨_, h3⟩
    · exact .inr (.one h4)
    · exact .inr (.more h4 h3)
theorem reach_any (h : Full n A M) (h' : Full n A M') {e f : Nat} (hr : Blt.Reach (Rel n (ndM A M)) e f) : e = f ∨ Blt.Reach (Rel n (ndM A M')) e f := by
  induction hr with
  | one h1 => exact step_any h h' h1
  | more h1 _ ih =>
    rcases step_any h h' h1 with rfl | h2
    · exact ih
    · rcases ih with rfl | h3
      · exact .inr h2
      · exact .inr (h2.trans h3)
theorem same_any (h : Full n A M) (h' : Full n A M') {e f : Nat} (hs : Same (Rel n (ndM A M)) e f) : Same (Rel n (ndM A M')) e f := by
  rcases hs with rfl | ⟨h1, h2⟩
  · exact .refl
  · rcases reach_any h h' h1 with rfl | h3
    · exact .refl
    · rcases reach_any h h' h2 with rfl | h4
      · exact .refl
      · exact .inr ⟨h3, h4⟩
theorem sameB_any (h : Full n A M) (h' : Full n A M') {e f : Nat} (he : e < n) (hf : f < n) : sameB n (ndM A M) e f = sameB n (ndM A M') e f := by
  rw [Bool.eq_iff_iff, Blt.sameB_iff he hf, Blt.sameB_iff he hf]
  exact ⟨same_any h h', same_any h' h⟩
theorem filter_same {l : List Nat} {p q : Nat → Bool} (h : ∀ x ∈ l, p x = q x) : l.filter p = l.filter q := List.filter_congr h
theorem blocks0_of {nd nd' : Nat → Nat → Bool} (hs : ∀ e f, e < n → f < n → sameB n nd e f = sameB n nd' e f) : blocks0 n nd = blocks0 n nd' := by
  unfold blocks0
  have h1 : (List.range n).filter (leadB n nd) = (List.range n).filter (leadB n nd') := filter_same fun e he => by
    have he := List.mem_range.1 he
    unfold leadB
    rw [Bool.eq_iff_iff, List.all_eq_true, List.all_eq_true]
    constructor
    · intro h2 f hf; rw [← hs f e (by have := List.mem_range.1 hf; omega) he]; exact h2 f hf
    · intro h2 f hf; rw [hs f e (by have := List.mem_range.1 hf; omega) he]; exact h2 f hf
  rw [h1]
  apply List.map_congr_left
  intro e he
  have he := List.mem_range.1 (List.mem_filter.1 he).1
  exact filter_same fun f hf => hs e f he (List.mem_range.1 hf)
theorem blocks0_any (h : Full n A M) (h' : Full n A M') : blocks0 n (ndM A M) = blocks0 n (ndM A M') := blocks0_of fun e f he hf => sameB_any h h' he hf
theorem wait_any (h : Full n A M) (h' : Full n A M') {i j : Nat} (hw : waitB (ndM A M) (blocks0 n (ndM A M)) i j = true) : waitB (ndM A M') (blocks0 n (ndM A M)) i j = true := by
  have hsp := Blt.blocks0_spec (n := n) (nd := ndM A M)
  unfold waitB at hw ⊢
  rw [Bool.and_eq_true, bne_iff_ne, List.any_eq_true] at hw ⊢
  obtain ⟨hij, e, he, hw⟩ := hw
  rw [List.any_eq_true] at hw
  obtain ⟨f, hf, hnd⟩ := hw
  have hbi : ∃ b, (blocks0 n (ndM A M))[i]? = some b ∧ e ∈ b := by
    cases hb : (blocks0 n (ndM A M))[i]? with
    | none => rw [List.getD_eq_getElem?_getD, hb] at he; cases he
    | some b => rw [List.getD_eq_getElem?_getD, hb] at he; exact ⟨b, rfl, he⟩
  have hbj : ∃ b, (blocks0 n (ndM A M))[j]? = some b ∧ f ∈ b := by
    cases hb : (blocks0 n (ndM A M))[j]? with
    | none => rw [List.getD_eq_getElem?_getD, hb] at hf; cases hf
    | some b => rw [List.getD_eq_getElem?_getD, hb] at hf; exact ⟨b, rfl, hf⟩
  obtain ⟨bi, hbi, hei⟩ := hbi
  obtain ⟨bj, hbj, hfj⟩ := hbj
  have hen := hsp.lt i bi hbi e hei
  have hfn := hsp.lt j bj hbj f hfj
  obtain ⟨f', h1, h2, h3⟩ := partner h h' hfn
  have hs : Same (Rel n (ndM A M)) f f' := by
    apply same_any h' h
    rcases h3 with h3 | ⟨h3, h4⟩
    · exact .inl h3.symm
    · exact .inr ⟨h3, h4⟩
  have hf'j : f' ∈ bj := (hsp.same j bj hbj f hfj f' h1).2 hs
  refine ⟨hij, e, he, ?_⟩
  rw [List.any_eq_true]
  refine ⟨f', by rw [List.getD_eq_getElem?_getD, hbj]; exact hf'j, ?_⟩
  unfold ndM at hnd ⊢
  rw [Bool.and_eq_true, bne_iff_ne] at hnd ⊢
  exact ⟨fun e1 => hij (hsp.one i j bi bj e hbi hbj hei (e1 ▸ hf'j)), by rw [h2]; exact hnd.2⟩
theorem pickB_congr {N : Nat} {w w' : Nat → Nat → Bool} (h : ∀ i j, i < N → j < N → w i j = w' i j) (seq : List Nat) : pickB N w seq = pickB N w' seq := by
  unfold pickB
  have : ∀ l : List Nat, (∀ x ∈ l, x < N) → l.find? (fun i => !seq.contains i && (List.range N).all fun j => !w i j || seq.contains j) = l.find? (fun i => !seq.contains i && (List.range N).all fun j => !w' i j || seq.contains j) := by
    intro l
    induction l with
    | nil => intro _; rfl
    | cons x l ih =>
      intro hl
      have e1 : ((List.range N).all fun j => !w x j || seq.contains j) = ((List.range N).all fun j => !w' x j || seq.contains j) := by
        rw [Bool.eq_iff_iff, List.all_eq_true, List.all_eq_true]
        constructor
        · intro h2 j hj; rw [← h x j (hl x (by simp)) (List.mem_range.1 hj)]; exact h2 j hj
        · intro h2 j hj; rw [h x j (hl x (by simp)) (List.mem_range.1 hj)]; exact h2 j hj
      rw [List.find?_cons, List.find?_cons, e1, ih fun y hy => hl y (List.mem_cons_of_mem _ hy)]
  exact this _ fun x hx => List.mem_range.1 hx
theorem orderB_congr {N : Nat} {w w' : Nat → Nat → Bool} (h : ∀ i j, i < N → j < N → w i j = w' i j) : ∀ (m : Nat) (seq : List Nat), orderB N w m seq = orderB N w' m seq
  | 0, _ => rfl
  | m + 1, seq => by
    simp only [orderB]
    rw [pickB_congr h seq]
    cases pickB N w' seq with
    | none => exact orderB_congr h m seq
    | some i => exact orderB_congr h m (seq ++ [i])
theorem blocks_of {nd nd' : Nat → Nat → Bool} (h0 : blocks0 n nd = blocks0 n nd') (hw : ∀ i j, waitB nd (blocks0 n nd) i j = waitB nd' (blocks0 n nd) i j) : blocksB n nd = blocksB n nd' := by
  unfold blocksB seqB
  rw [← h0, orderB_congr (fun i j _ _ => hw i j)]
theorem blocks_any (h : Full n A M) (h' : Full n A M') : blocksB n (ndM A M) = blocksB n (ndM A M') := by
  have h0 := blocks0_any h h'
  refine blocks_of h0 fun i j => ?_
  rw [Bool.eq_iff_iff]
  constructor
  · exact wait_any h h'
  · intro h1
    have := wait_any h' h (i := i) (j := j) (by rw [← h0]; exact h1)
    rw [← h0] at this
    exact this
theorem blocks_congr {nd nd' : Nat → Nat → Bool} (h : ∀ e f, e < n → f < n → nd e f = nd' e f) : blocksB n nd = blocksB n nd' := by
  have hR : Rel n nd = Rel n nd' := by
    funext a b
    apply propext
    constructor
    · rintro ⟨h1, h2, h3⟩; exact ⟨h1, h2, by rw [← h a b h1 h2]; exact h3⟩
    · rintro ⟨h1, h2, h3⟩; exact ⟨h1, h2, by rw [h a b h1 h2]; exact h3⟩
  have hs : ∀ e f, e < n → f < n → sameB n nd e f = sameB n nd' e f := fun e f he hf => by
    rw [Bool.eq_iff_iff, Blt.sameB_iff he hf, Blt.sameB_iff he hf, hR]
  have h0 := blocks0_of hs
  have hsp := Blt.blocks0_spec (n := n) (nd := nd)
  have hin : ∀ i e, e ∈ (blocks0 n nd).getD i [] → e < n := fun i e he => by
    cases hb : (blocks0 n nd)[i]? with
    | none => rw [List.getD_eq_getElem?_getD, hb] at he; cases he
    | some b => rw [List.getD_eq_getElem?_getD, hb] at he; exact hsp.lt i b hb e he
  refine blocks_of h0 fun i j => ?_
  rw [Bool.eq_iff_iff]
  unfold waitB
  simp only [Bool.and_eq_true, bne_iff_ne, List.any_eq_true]
  constructor
  · rintro ⟨hij, e, he, f, hf, h1⟩; exact ⟨hij, e, he, f, hf, by rw [← h e f (hin i e he) (hin j f hf)]; exact h1⟩
  · rintro ⟨hij, e, he, f, hf, h1⟩; exact ⟨hij, e, he, f, hf, by rw [h e f (hin i e he) (hin j f hf)]; exact h1⟩
end
end Go.Proofs.Ytmfcefakpfbaoaa.PMatch
end
