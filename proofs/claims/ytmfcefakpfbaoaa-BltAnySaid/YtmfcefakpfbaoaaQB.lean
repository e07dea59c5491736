/- Lemmas for RowBltAny. -/
import Derived.Calls
section
set_option linter.unusedVariables false
set_option linter.unusedSimpArgs false
namespace Go.Proofs.Ytmfcefakpfbaoaa.Blt
section
variable (R : Nat → Nat → Prop)
inductive Reach : Nat → Nat → Prop
  | one {a b : Nat} : R a b → Reach a b
  | more {a b c : Nat} : R a b → Reach b c → Reach a c
end
section
variable {R : Nat → Nat → Prop} {a b c n : Nat}
theorem Reach.trans (h : Reach R a b) : Reach R b c → Reach R a c := by
  induction h with
  | one h => exact fun h2 => .more h h2
  | more h _ ih => exact fun h2 => .more h (ih h2)
theorem Reach.snoc (h : Reach R a b) (h2 : R b c) : Reach R a c := h.trans (.one h2)
theorem Reach.lt (hR : ∀ a b, R a b → b < n) (h : Reach R a b) : b < n := by
  induction h with
  | one h => exact hR _ _ h
  | more _ _ ih => exact ih
def Same (R : Nat → Nat → Prop) (a b : Nat) : Prop := a = b ∨ (Reach R a b ∧ Reach R b a)
theorem Same.refl : Same R a a := .inl rfl
theorem Same.symm (h : Same R a b) : Same R b a := by
  rcases h with rfl | ⟨h1, h2⟩
  · exact .inl rfl
  · exact .inr ⟨h2, h1⟩
theorem Same.trans (h : Same R a b) (h2 : Same R b c) : Same R a c := by
  rcases h with rfl | ⟨p, q⟩
  · exact h2
  · rcases h2 with rfl | ⟨r, s⟩
    · exact .inr ⟨p, q⟩
    · exact .inr ⟨p.trans r, s.trans q⟩
open Classical in
noncomputable def weight (R : Nat → Nat → Prop) (n a : Nat) : Nat := (List.range n).countP fun x => decide (x = a ∨ Reach R a x)
theorem countP_lt {p q : Nat → Bool} : ∀ {l : List Nat}, (∀ x ∈ l, p x = true → q x = true) → (∃ x ∈ l, q x = true ∧ p x = false) → l.countP p < l.countP q
  | [], _, ⟨x, h, _⟩ => by cases h
  | y :: l, h, ⟨x, hx, h1, h2⟩ => by
    rw [List.countP_cons, List.countP_cons]
    have hm : l.countP p ≤ l.countP q := List.countP_mono_left fun z hz => h z (List.mem_cons_of_mem _ hz)
    rcases List.mem_cons.1 hx with rfl | hx
    · rw [h1, h2]; simp; omega
    · have := countP_lt (fun z hz => h z (List.mem_cons_of_mem _ hz)) ⟨x, hx, h1, h2⟩
      by_cases hp : p y = true
      · rw [hp, h y List.mem_cons_self hp]; simp; omega
      · have hp' : p y = false := by simpa using hp
        rw [hp', if_neg (by simp)]
        omega
theorem weight_lt (hf : b < n) (ha : a < n) (h : Reach R a b) (hn : ¬ Same R a b) : weight R n b < weight R n a := by
  refine countP_lt (fun x _ hx => ?_) ⟨a, List.mem_range.2 ha, by simp, ?_⟩
  · simp only [decide_eq_true_eq] at hx ⊢
    rcases hx with rfl | hx
    · exact .inr h
    · exact .inr (h.trans hx)
  · simp only [decide_eq_false_iff_not]
    rintro (rfl | h2)
    · exact hn .refl
    · exact hn (.inr ⟨h, h2⟩)
theorem least_of {P : Nat → Prop} (f : Nat → Nat) : ∀ (k : Nat) (x : Nat), P x → f x ≤ k → ∃ x, P x ∧ ∀ y, P y → f x ≤ f y := by
  intro k
  induction k with
  | zero => exact fun x hx hk => ⟨x, hx, fun y _ => by omega⟩
  | succ k ih =>
    intro x hx hk
    by_cases h : ∃ y, P y ∧ f y < f x
    · obtain ⟨y, hy, hl⟩ := h
      exact ih y hy (by omega)
    · exact ⟨x, hx, fun y hy => by
        rcases Nat.lt_or_ge (f y) (f x) with h1 | h1
        · exact absurd ⟨y, hy, h1⟩ h
        · exact h1⟩
theorem free_one {U : Nat → Prop} (hU : ∀ a, U a → a < n) {x : Nat} (hx : U x) :
    ∃ e, U e ∧ ∀ a b, Same R e a → R a b → U b → Same R e b := by
  obtain ⟨e, he, hm⟩ := least_of (P := U) (weight R n) _ x hx (Nat.le_refl _)
  refine ⟨e, he, fun a b hs hr hb => ?_⟩
  apply Classical.byContradiction
  intro hn
  have h : Reach R e b := by
    rcases hs with rfl | ⟨h, _⟩
    · exact .one hr
    · exact h.snoc hr
  have := weight_lt (hU b hb) (hU e he) h hn
  have := hm b hb
  omega
end
def stepB (n : Nat) (nd : Nat → Nat → Bool) (S : Nat → Bool) : Nat → Bool := fun k => S k || (List.range n).any fun i => S i && nd i k
def iterB (n : Nat) (nd : Nat → Nat → Bool) : Nat → (Nat → Bool) → List Bool
  | 0, S => (List.range n).map S
  | m + 1, S => let l := (List.range n).map (stepB n nd S); iterB n nd m (fun k => l.getD k false)
def reachB (n : Nat) (nd : Nat → Nat → Bool) (e : Nat) : List Bool := iterB n nd n (fun k => nd e k)
section
variable {n : Nat} {nd : Nat → Nat → Bool} {e : Nat}
def Rel (n : Nat) (nd : Nat → Nat → Bool) (a b : Nat) : Prop := a < n ∧ b < n ∧ nd a b = true
def Closed (n : Nat) (nd : Nat → Nat → Bool) (S : Nat → Bool) : Prop := ∀ i k, i < n → k < n → S i = true → nd i k = true → S k = true
theorem stepB_mono {S : Nat → Bool} {k : Nat} (h : S k = true) : stepB n nd S k = true := by unfold stepB; rw [h]; rfl
theorem stepB_iff {S : Nat → Bool} {k : Nat} : stepB n nd S k = true ↔ S k = true ∨ ∃ i, i < n ∧ S i = true ∧ nd i k = true := by
  unfold stepB
  simp [List.any_eq_true]
def size (n : Nat) (S : Nat → Bool) : Nat := (List.range n).countP S
theorem size_le (S : Nat → Bool) : size n S ≤ n := by
  have := List.countP_le_length (p := S) (l := List.range n)
  rw [List.length_range] at this
  exact this
theorem size_grow {S : Nat → Bool} (h : ¬ Closed n nd S) : size n S < size n (stepB n nd S) := by
  refine countP_lt (fun x _ hx => stepB_mono hx) ?_
  apply Classical.byContradiction
  intro hc
  apply h
  intro i k hi hk h1 h2
  cases hs : S k with
  | true => rfl
  | false => exact absurd ⟨k, List.mem_range.2 hk, stepB_iff.2 (.inr ⟨i, hi, h1, h2⟩), hs⟩ hc
theorem closed_step {S : Nat → Bool} (h : Closed n nd S) : ∀ k, k < n → stepB n nd S k = S k := by
  intro k hk
  cases hs : S k with
  | true => exact stepB_mono hs
  | false =>
    cases h2 : stepB n nd S k with
    | false => rfl
    | true =>
      rcases stepB_iff.1 h2 with h3 | ⟨i, hi, h3, h4⟩
      · rw [hs] at h3; cases h3
      · have := h i k hi hk h3 h4; rw [hs] at this; cases this
theorem size_congr {S T : Nat → Bool} (h : ∀ k, k < n → S k = T k) : size n S = size n T := by
  unfold size
  exact List.countP_congr fun x hx => by rw [h x (List.mem_range.1 hx)]
theorem closed_congr {S T : Nat → Bool} (h : ∀ k, k < n → S k = T k) (hs : Closed n nd S) : Closed n nd T := fun i k hi hk h1 h2 => by
  rw [← h k hk]; exact hs i k hi hk (by rw [h i hi]; exact h1) h2
theorem getD_map {α : Type} (f : Nat → α) (d : α) {k : Nat} (hk : k < n) : ((List.range n).map f).getD k d = f k := by
  simp [List.getD_eq_getElem?_getD, hk]
theorem iterB_inv {P : (Nat → Bool) → Prop} (hs : ∀ S, P S → P (stepB n nd S)) (hc : ∀ S T, (∀ k, k < n → S k = T k) → P S → P T) :
    ∀ (m : Nat) (S : Nat → Bool), P S → P (fun k => (iterB n nd m S).getD k false)
  | 0, S, h => hc S _ (fun k hk => (getD_map S false hk).symm) h
  | m + 1, S, h => by
    show P (fun k => (iterB n nd m (fun k => ((List.range n).map (stepB n nd S)).getD k false)).getD k false)
    exact iterB_inv hs hc m _ (hc _ _ (fun k hk => (getD_map _ false hk).symm) (hs S h))
theorem iterB_len : ∀ (m : Nat) (S : Nat → Bool), (iterB n nd m S).length = n
  | 0, S => by simp [iterB]
  | m + 1, S => iterB_len m _
theorem iterB_closed : ∀ (m : Nat) (S : Nat → Bool), Closed n nd S ∨ n < m + size n S → Closed n nd (fun k => (iterB n nd m S).getD k false)
  | 0, S, h => by
    rcases h with h | h
    · exact closed_congr (fun k hk => (getD_map S false hk).symm) h
    · have := size_le (n := n) S; omega
  | m + 1, S, h => by
    show Closed n nd (fun k => (iterB n nd m (fun k => ((List.range n).map (stepB n nd S)).getD k false)).getD k false)
    refine iterB_closed m _ ?_
    have e : ∀ k, k < n → stepB n nd S k = ((List.range n).map (stepB n nd S)).getD k false := fun k hk => (getD_map _ false hk).symm
    by_cases hcl : Closed n nd S
    · exact .inl (closed_congr e (closed_congr (fun k hk => (closed_step hcl k hk).symm) hcl))
    · right
      have h1 := size_grow hcl
      rw [size_congr e] at h1
      rcases h with h | h
      · exact absurd h hcl
      · omega
theorem reachB_len : (reachB n nd e).length = n := iterB_len _ _
theorem reachB_of (he : e < n) {f : Nat} (h : Reach (Rel n nd) e f) : (reachB n nd e).getD f false = true := by
  have hcl : Closed n nd (fun k => (reachB n nd e).getD k false) := by
    refine iterB_closed n _ ?_
    by_cases h0 : Closed n nd (fun k => nd e k)
    · exact .inl h0
    · right
      have : 0 < size n (fun k => nd e k) := by
        apply Classical.byContradiction
        intro h1
        apply h0
        intro i k hi hk h2 h3
        have h4 : size n (fun k => nd e k) = 0 := by omega
        have h5 := List.countP_eq_zero.1 h4 i (List.mem_range.2 hi)
        exact absurd h2 h5
      omega
  have h0 : ∀ k, k < n → nd e k = true → (reachB n nd e).getD k false = true := fun k hk hek =>
    iterB_inv (P := fun S => ∀ k, k < n → nd e k = true → S k = true) (fun S hS k hk h => stepB_mono (hS k hk h)) (fun S T hST hS k hk h => by rw [← hST k hk]; exact hS k hk h) n _ (fun k _ h => h) k hk hek
  have main : ∀ {a b : Nat}, Reach (Rel n nd) a b → (a = e ∨ (reachB n nd e).getD a false = true) → (reachB n nd e).getD b false = true := by
    intro a b hr
    induction hr with
    | one hab =>
      rintro (rfl | h1)
      · exact h0 _ hab.2.1 hab.2.2
      · exact hcl _ _ hab.1 hab.2.1 h1 hab.2.2
    | more hab _ ih =>
      rintro (rfl | h1)
      · exact ih (.inr (h0 _ hab.2.1 hab.2.2))
      · exact ih (.inr (hcl _ _ hab.1 hab.2.1 h1 hab.2.2))
  exact main h (.inl rfl)
theorem of_reachB (he : e < n) {f : Nat} (h : (reachB n nd e).getD f false = true) : Reach (Rel n nd) e f := by
  have hf : f < n := by
    rcases Nat.lt_or_ge f n with h1 | h1
    · exact h1
    · rw [List.getD_eq_getElem?_getD, List.getElem?_eq_none (by rw [reachB_len]; exact h1)] at h; cases h
  exact iterB_inv (P := fun S => ∀ k, k < n → S k = true → Reach (Rel n nd) e k)
    (fun S hS k hk h => by
      rcases stepB_iff.1 h with h1 | ⟨i, hi, h1, h2⟩
      · exact hS k hk h1
      · exact (hS i hi h1).snoc ⟨hi, hk, h2⟩)
    (fun S T hST hS k hk h => hS k hk (by rw [hST k hk]; exact h)) n _ (fun k hk h => .one ⟨he, hk, h⟩) f hf h
theorem reachB_iff (he : e < n) {f : Nat} : (reachB n nd e).getD f false = true ↔ Reach (Rel n nd) e f := ⟨of_reachB he, reachB_of he⟩
end
section
variable (n : Nat) (nd : Nat → Nat → Bool)
def sameB (e f : Nat) : Bool := f == e || ((reachB n nd e).getD f false && (reachB n nd f).getD e false)
def leadB (e : Nat) : Bool := (List.range e).all fun f => !sameB n nd f e
def blocks0 : List (List Nat) := ((List.range n).filter (leadB n nd)).map fun e => (List.range n).filter (sameB n nd e)
def waitB (bl : List (List Nat)) (i j : Nat) : Bool := i != j && (bl.getD i []).any fun e => (bl.getD j []).any fun f => nd e f
def pickB (N : Nat) (w : Nat → Nat → Bool) (seq : List Nat) : Option Nat := (List.range N).find? fun i => !seq.contains i && (List.range N).all fun j => !w i j || seq.contains j
def orderB (N : Nat) (w : Nat → Nat → Bool) : Nat → List Nat → List Nat
  | 0, seq => seq
  | m + 1, seq => match pickB N w seq with
    | some i => orderB N w m (seq ++ [i])
    | none => orderB N w m seq
end
section
variable {n : Nat} {nd : Nat → Nat → Bool} {e f g : Nat}
theorem sameB_iff (he : e < n) (hf : f < n) : sameB n nd e f = true ↔ Same (Rel n nd) e f := by
  unfold sameB Same
  rw [Bool.or_eq_true, Bool.and_eq_true, reachB_iff he, reachB_iff hf, beq_iff_eq]
  exact ⟨fun h => h.imp (fun h => h.symm) id, fun h => h.imp (fun h => h.symm) id⟩
theorem leadB_iff (he : e < n) : leadB n nd e = true ↔ ∀ f, f < e → ¬ Same (Rel n nd) f e := by
  unfold leadB
  rw [List.all_eq_true]
  constructor
  · intro h f hf hs
    have := h f (List.mem_range.2 hf)
    rw [(sameB_iff (by omega) he).2 hs] at this
    cases this
  · intro h f hf
    have hf' := List.mem_range.1 hf
    cases hs : sameB n nd f e with
    | false => rfl
    | true => exact absurd ((sameB_iff (by omega) he).1 hs) (h f hf')
theorem lead_of (he : e < n) : ∃ l, l ≤ e ∧ leadB n nd l = true ∧ Same (Rel n nd) l e := by
  obtain ⟨l, ⟨h1, h2⟩, h3⟩ := least_of (P := fun l => l ≤ e ∧ Same (Rel n nd) l e) id e e ⟨Nat.le_refl _, .refl⟩ (Nat.le_refl _)
  refine ⟨l, h1, (leadB_iff (by omega)).2 fun f hf hs => ?_, h2⟩
  have h4 : l ≤ f := h3 f ⟨by omega, hs.trans h2⟩
  omega
theorem lead_one (he : e < n) (hf : f < n) (h1 : leadB n nd e = true) (h2 : leadB n nd f = true) (hs : Same (Rel n nd) e f) : e = f := by
  rcases Nat.lt_trichotomy e f with h | h | h
  · exact absurd hs ((leadB_iff hf).1 h2 e h)
  · exact h
  · exact absurd hs.symm ((leadB_iff he).1 h1 f h)
structure Blocks (n : Nat) (nd : Nat → Nat → Bool) (bl : List (List Nat)) : Prop where
  lt : ∀ (i : Nat) b, bl[i]? = some b → ∀ e ∈ b, e < n
  same : ∀ (i : Nat) b, bl[i]? = some b → ∀ e ∈ b, ∀ f, f < n → (f ∈ b ↔ Same (Rel n nd) e f)
  all : ∀ e, e < n → ∃ (i : Nat) (b : List Nat), bl[i]? = some b ∧ e ∈ b
  one : ∀ (i j : Nat) b c e, bl[i]? = some b → bl[j]? = some c → e ∈ b → e ∈ c → i = j
  some_ : ∀ (i : Nat) b, bl[i]? = some b → b ≠ []
  rises : ∀ (i : Nat) b, bl[i]? = some b → b.Pairwise (· < ·)
theorem range_rises (k : Nat) : (List.range k).Pairwise (· < ·) := List.pairwise_lt_range
theorem getElem?_inj {α : Type} {l : List α} {i j : Nat} {x : α} (hn : l.Nodup) (hi : l[i]? = some x) (hj : l[j]? = some x) : i = j := by
  exact (List.getElem?_inj (List.getElem?_eq_some_iff.1 hi).1 hn).1 (hi.trans hj.symm)
theorem blocks0_spec : Blocks n nd (blocks0 n nd) := by
  have key : ∀ (i : Nat) (b : List Nat), (blocks0 n nd)[i]? = some b → ∃ l, ((List.range n).filter (leadB n nd))[i]? = some l ∧ l < n ∧ leadB n nd l = true ∧ b = (List.range n).filter (sameB n nd l) := by
    intro i b h
    unfold blocks0 at h
    rw [List.getElem?_map] at h
    cases hl : ((List.range n).filter (leadB n nd))[i]? with
    | none => rw [hl] at h; cases h
    | some l =>
      rw [hl] at h
      have hm := List.mem_filter.1 (List.mem_of_getElem? hl)
      exact ⟨l, rfl, List.mem_range.1 hm.1, hm.2, (Option.some.inj h).symm⟩
  have mem : ∀ l e, l < n → (e ∈ (List.range n).filter (sameB n nd l) ↔ e < n ∧ Same (Rel n nd) l e) := by
    intro l e hl
    rw [List.mem_filter, List.mem_range]
    exact ⟨fun h => ⟨h.1, (sameB_iff hl h.1).1 h.2⟩, fun h => ⟨h.1, (sameB_iff hl h.1).2 h.2⟩⟩
  have hnd : ((List.range n).filter (leadB n nd)).Nodup := List.Pairwise.filter _ List.nodup_range
  constructor
  · intro i b h e he
    obtain ⟨l, _, h2, _, rfl⟩ := key i b h
    exact ((mem l e h2).1 he).1
  · intro i b h e he f hf
    obtain ⟨l, _, h2, _, rfl⟩ := key i b h
    have h5 := (mem l e h2).1 he
    rw [mem l f h2]
    exact ⟨fun h => h5.2.symm.trans h.2, fun h => ⟨hf, h5.2.trans h⟩⟩
  · intro e he
    obtain ⟨l, h1, h2, h3⟩ := lead_of (nd := nd) he
    have hm : l ∈ (List.range n).filter (leadB n nd) := List.mem_filter.2 ⟨List.mem_range.2 (by omega), h2⟩
    obtain ⟨i, hi⟩ := List.getElem?_of_mem hm
    exact ⟨i, _, by unfold blocks0; rw [List.getElem?_map, hi]; rfl, (mem l e (by omega)).2 ⟨he, h3⟩⟩
  · intro i j b c e h1 h2 h3 h4
    obtain ⟨l, a1, a2, a3, rfl⟩ := key i b h1
    obtain ⟨m, b1, b2, b3, rfl⟩ := key j c h2
    have h5 := ((mem l e a2).1 h3).2
    have h6 := ((mem m e b2).1 h4).2
    obtain rfl := lead_one a2 b2 a3 b3 (h5.trans h6.symm)
    exact getElem?_inj hnd a1 b1
  · intro i b h
    obtain ⟨l, _, h2, _, rfl⟩ := key i b h
    exact List.ne_nil_of_mem ((mem l l h2).2 ⟨h2, .refl⟩)
  · intro i b h
    obtain ⟨l, _, _, _, rfl⟩ := key i b h
    exact (range_rises n).filter _
theorem free_block {bl : List (List Nat)} (hb : Blocks n nd bl) {U : Nat → Prop} (hU : ∀ i, U i → i < bl.length) {x : Nat} (hx : U x) : ∃ i, U i ∧ ∀ j, U j → waitB nd bl i j = false := by
  obtain ⟨b, hbx⟩ : ∃ b, bl[x]? = some b := ⟨bl[x]'(hU x hx), List.getElem?_eq_getElem _⟩
  obtain ⟨e0, he0⟩ := List.exists_mem_of_ne_nil b (hb.some_ x b hbx)
  obtain ⟨e, ⟨i, c, hi, hc, he⟩, hfree⟩ := free_one (R := Rel n nd) (n := n) (U := fun e => ∃ (i : Nat) (c : List Nat), U i ∧ bl[i]? = some c ∧ e ∈ c) (fun a ⟨i, c, _, h2, h3⟩ => hb.lt i c h2 a h3) (x := e0) ⟨x, b, hx, hbx, he0⟩
  refine ⟨i, hi, fun j hj => ?_⟩
  cases hw : waitB nd bl i j with
  | false => rfl
  | true =>
    exfalso
    unfold waitB at hw
    rw [Bool.and_eq_true, List.any_eq_true] at hw
    obtain ⟨hij, a, ha, hw⟩ := hw
    rw [List.any_eq_true] at hw
    obtain ⟨f, hf, hr⟩ := hw
    rw [List.getD_eq_getElem?_getD, hc] at ha
    obtain ⟨d, hd⟩ : ∃ d, bl[j]? = some d := ⟨bl[j]'(hU j hj), List.getElem?_eq_getElem _⟩
    rw [List.getD_eq_getElem?_getD, hd] at hf
    have h1 := hb.lt i c hc a ha
    have h2 := hb.lt j d hd f hf
    have h3 := hfree a f ((hb.same i c hc e he a h1).1 ha) ⟨h1, h2, hr⟩ ⟨j, d, hj, hd, hf⟩
    have h4 : f ∈ c := (hb.same i c hc e he f h2).2 h3
    have h5 := hb.one i j c d f hc hd h4 hf
    rw [h5] at hij
    simp at hij
theorem pick_some {N : Nat} {w : Nat → Nat → Bool} {seq : List Nat} {i : Nat} (h : pickB N w seq = some i) : i < N ∧ i ∉ seq ∧ ∀ j, j < N → w i j = true → j ∈ seq := by
  have h1 := List.mem_of_find?_eq_some h
  have h2 := List.find?_some h
  simp only [Bool.and_eq_true, Bool.not_eq_true', List.all_eq_true, Bool.or_eq_true, List.mem_range] at h1 h2
  refine ⟨h1, fun hm => ?_, fun j hj hw => ?_⟩
  · have := h2.1; rw [List.contains_iff_mem.2 hm] at this; cases this
  · rcases h2.2 j hj with h3 | h3
    · rw [hw] at h3; cases h3
    · exact List.contains_iff_mem.1 h3
structure Ordered (N : Nat) (w : Nat → Nat → Bool) (seq : List Nat) : Prop where
  lt : ∀ i ∈ seq, i < N
  nodup : seq.Nodup
  before : ∀ (k i : Nat), seq[k]? = some i → ∀ j, j < N → w i j = true → ∃ m, m < k ∧ seq[m]? = some j
theorem ordered_snoc {N : Nat} {w : Nat → Nat → Bool} {seq : List Nat} {i : Nat} (hs : Ordered N w seq) (h : pickB N w seq = some i) : Ordered N w (seq ++ [i]) := by
  obtain ⟨h1, h2, h3⟩ := pick_some h
  refine ⟨fun x hx => ?_, ?_, fun k x hk j hj hw => ?_⟩
  · rcases List.mem_append.1 hx with hx | hx
    · exact hs.lt x hx
    · simp at hx; omega
  · rw [List.nodup_append]
    exact ⟨hs.nodup, by simp, fun a ha b hb => by simp at hb; subst hb; exact fun e => h2 (e ▸ ha)⟩
  · rcases Nat.lt_or_ge k seq.length with hkl | hkl
    · rw [List.getElem?_append_left hkl] at hk
      obtain ⟨m, h4, h5⟩ := hs.before k x hk j hj hw
      exact ⟨m, h4, by rw [List.getElem?_append_left (by omega)]; exact h5⟩
    · rw [List.getElem?_append_right hkl] at hk
      have hk0 : k = seq.length ∧ x = i := by
        rcases Nat.lt_or_ge 0 (k - seq.length) with h6 | h6
        · rw [List.getElem?_eq_none (by simp; omega)] at hk; cases hk
        · have h7 : k - seq.length = 0 := by omega
          rw [h7] at hk; simp at hk
          exact ⟨by omega, hk.symm⟩
      obtain ⟨rfl, rfl⟩ := hk0
      obtain ⟨m, hm⟩ := List.getElem?_of_mem (h3 j hj hw)
      have hml : m < seq.length := (List.getElem?_eq_some_iff.1 hm).1
      exact ⟨m, hml, by rw [List.getElem?_append_left hml]; exact hm⟩
theorem len_le : ∀ (l m : List Nat), l.Nodup → (∀ x ∈ l, x ∈ m) → l.length ≤ m.length
  | [], m, _, _ => Nat.zero_le _
  | x :: l, m, hn, h => by
    obtain ⟨h1, h2⟩ := List.nodup_cons.1 hn
    have hx := h x List.mem_cons_self
    have := len_le l (m.erase x) h2 (fun y hy => (List.mem_erase_of_ne (fun e : y = x => h1 (by rw [← e]; exact hy))).2 (h y (List.mem_cons_of_mem _ hy)))
    rw [List.length_erase_of_mem hx] at this
    have hp : 0 < m.length := List.length_pos_of_mem hx
    simp only [List.length_cons]
    omega
theorem nodup_full {N : Nat} {seq : List Nat} (h1 : ∀ i ∈ seq, i < N) (h2 : seq.Nodup) (h3 : ∀ i, i < N → i ∈ seq) : seq.length = N := by
  have a := len_le seq (List.range N) h2 (fun x hx => List.mem_range.2 (h1 x hx))
  have b := len_le (List.range N) seq List.nodup_range (fun x hx => h3 x (List.mem_range.1 hx))
  rw [List.length_range] at a b
  omega
theorem pick_there {bl : List (List Nat)} (hb : Blocks n nd bl) {seq : List Nat} (hs : Ordered bl.length (waitB nd bl) seq) (hl : seq.length < bl.length) : ∃ i, pickB bl.length (waitB nd bl) seq = some i := by
  obtain ⟨x, hx, hxs⟩ : ∃ x, x < bl.length ∧ x ∉ seq := by
    apply Classical.byContradiction
    intro hc
    have := nodup_full hs.lt hs.nodup (fun i hi => Classical.byContradiction fun h => hc ⟨i, hi, h⟩)
    omega
  obtain ⟨i, ⟨hi1, hi2⟩, hfree⟩ := free_block hb (U := fun i => i < bl.length ∧ i ∉ seq) (fun i h => h.1) (x := x) ⟨hx, hxs⟩
  cases hp : pickB bl.length (waitB nd bl) seq with
  | some i => exact ⟨i, rfl⟩
  | none =>
    exfalso
    have h1 := List.find?_eq_none.1 hp i (List.mem_range.2 hi1)
    apply h1
    rw [Bool.and_eq_true, List.all_eq_true]
    refine ⟨by simpa using hi2, fun j hj => ?_⟩
    rw [Bool.or_eq_true]
    by_cases hjs : j ∈ seq
    · exact .inr (List.contains_iff_mem.2 hjs)
    · left; rw [hfree j ⟨List.mem_range.1 hj, hjs⟩]; rfl
theorem order_spec {bl : List (List Nat)} (hb : Blocks n nd bl) : ∀ (m : Nat) (seq : List Nat), Ordered bl.length (waitB nd bl) seq → seq.length + m ≤ bl.length → Ordered bl.length (waitB nd bl) (orderB bl.length (waitB nd bl) m seq) ∧ (orderB bl.length (waitB nd bl) m seq).length = seq.length + m
  | 0, seq, h, _ => ⟨h, rfl⟩
  | m + 1, seq, h, hl => by
    obtain ⟨i, hi⟩ := pick_there hb h (by omega)
    unfold orderB
    rw [hi]
    have := order_spec hb m (seq ++ [i]) (ordered_snoc h hi) (by simp; omega)
    refine ⟨this.1, this.2.trans (by simp; omega)⟩
end
section
variable {n : Nat} {nd : Nat → Nat → Bool}
end
section
variable (n : Nat) (nd : Nat → Nat → Bool)
def seqB : List Nat := orderB (blocks0 n nd).length (waitB nd (blocks0 n nd)) (blocks0 n nd).length []
def blocksB : List (List Nat) := (seqB n nd).map fun i => (blocks0 n nd).getD i []
def needsB : List (List Nat) := (List.range (blocksB n nd).length).map fun k => (List.range (blocksB n nd).length).filter fun p => waitB nd (blocksB n nd) k p
def levelsB (l : List (List Nat)) : List Nat := l.foldl (fun out b => out ++ [b.foldl (fun m k => max m (out.getD k 0 + 1)) 0]) []
end
structure Sorted (n : Nat) (nd : Nat → Nat → Bool) (bl needs : List (List Nat)) : Prop where
  blocks : Blocks n nd bl
  len : needs.length = bl.length
  needs_iff : ∀ (k : Nat) l, needs[k]? = some l → ∀ j, j ∈ l ↔ j < bl.length ∧ waitB nd bl k j = true
  rises : ∀ (k : Nat) l, needs[k]? = some l → l.Pairwise (· < ·)
  before : ∀ (k : Nat) l, needs[k]? = some l → ∀ j ∈ l, j < k
section
variable {n : Nat} {nd : Nat → Nat → Bool}
theorem seq_spec : Ordered (blocks0 n nd).length (waitB nd (blocks0 n nd)) (seqB n nd) ∧ (seqB n nd).length = (blocks0 n nd).length := by
  have := order_spec (blocks0_spec (n := n) (nd := nd)) (blocks0 n nd).length [] ⟨fun i h => (by cases h), List.nodup_nil, fun k i h => (by simp at h)⟩ (by simp)
  exact ⟨this.1, this.2.trans (by simp)⟩
theorem seq_at {k : Nat} (hk : k < (blocks0 n nd).length) : ∃ i, (seqB n nd)[k]? = some i ∧ i < (blocks0 n nd).length := by
  obtain ⟨h1, h2⟩ := seq_spec (n := n) (nd := nd)
  have hk' : k < (seqB n nd).length := by omega
  exact ⟨_, List.getElem?_eq_getElem hk', h1.lt _ (List.getElem_mem hk')⟩
theorem blocksB_len : (blocksB n nd).length = (blocks0 n nd).length := by unfold blocksB; rw [List.length_map]; exact (seq_spec (n := n) (nd := nd)).2
theorem blocksB_at {k : Nat} {b : List Nat} (h : (blocksB n nd)[k]? = some b) : ∃ i, (seqB n nd)[k]? = some i ∧ (blocks0 n nd)[i]? = some b := by
  unfold blocksB at h
  rw [List.getElem?_map] at h
  cases hi : (seqB n nd)[k]? with
  | none => rw [hi] at h; cases h
  | some i =>
    rw [hi] at h
    have hl := (seq_spec (n := n) (nd := nd)).1.lt i (List.mem_of_getElem? hi)
    refine ⟨i, rfl, ?_⟩
    have : (blocks0 n nd).getD i [] = b := Option.some.inj h
    rw [List.getD_eq_getElem?_getD, List.getElem?_eq_getElem hl] at this
    rw [List.getElem?_eq_getElem hl]
    exact congrArg some this
theorem blocksB_of {k i : Nat} {b : List Nat} (h : (seqB n nd)[k]? = some i) (hb : (blocks0 n nd)[i]? = some b) : (blocksB n nd)[k]? = some b := by
  unfold blocksB
  rw [List.getElem?_map, h]
  show some ((blocks0 n nd).getD i []) = some b
  rw [List.getD_eq_getElem?_getD, hb]; rfl
theorem seq_all {i : Nat} (hi : i < (blocks0 n nd).length) : ∃ k : Nat, (seqB n nd)[k]? = some i := by
  obtain ⟨h1, h2⟩ := seq_spec (n := n) (nd := nd)
  apply Classical.byContradiction
  intro hc
  have hn : i ∉ seqB n nd := fun h => hc (by obtain ⟨k, hk⟩ := List.getElem?_of_mem h; exact ⟨k, hk⟩)
  have := len_le (i :: seqB n nd) (List.range (blocks0 n nd).length) (List.nodup_cons.2 ⟨hn, h1.nodup⟩) (fun x hx => by
    rcases List.mem_cons.1 hx with rfl | hx
    · exact List.mem_range.2 hi
    · exact List.mem_range.2 (h1.lt x hx))
  rw [List.length_range, List.length_cons] at this
  omega
theorem blocksB_spec : Blocks n nd (blocksB n nd) := by
  have B := blocks0_spec (n := n) (nd := nd)
  constructor
  · intro i b h; obtain ⟨j, _, h2⟩ := blocksB_at h; exact B.lt j b h2
  · intro i b h; obtain ⟨j, _, h2⟩ := blocksB_at h; exact B.same j b h2
  · intro e he
    obtain ⟨i, b, h1, h2⟩ := B.all e he
    obtain ⟨k, hk⟩ := seq_all (List.getElem?_eq_some_iff.1 h1).1
    exact ⟨k, b, blocksB_of hk h1, h2⟩
  · intro i j b c e h1 h2 h3 h4
    obtain ⟨i', a1, a2⟩ := blocksB_at h1
    obtain ⟨j', b1, b2⟩ := blocksB_at h2
    obtain rfl := B.one i' j' b c e a2 b2 h3 h4
    exact getElem?_inj (seq_spec (n := n) (nd := nd)).1.nodup a1 b1
  · intro i b h; obtain ⟨j, _, h2⟩ := blocksB_at h; exact B.some_ j b h2
  · intro i b h; obtain ⟨j, _, h2⟩ := blocksB_at h; exact B.rises j b h2
theorem wait_iff {k j i i' : Nat} (h1 : (seqB n nd)[k]? = some i) (h2 : (seqB n nd)[j]? = some i') : waitB nd (blocksB n nd) k j = waitB nd (blocks0 n nd) i i' := by
  have e : ∀ {k i : Nat}, (seqB n nd)[k]? = some i → (blocksB n nd).getD k [] = (blocks0 n nd).getD i [] := by
    intro k i h
    unfold blocksB
    rw [List.getD_eq_getElem?_getD, List.getElem?_map, h]; rfl
  unfold waitB
  rw [e h1, e h2]
  congr 1
  rw [Bool.eq_iff_iff, bne_iff_ne, bne_iff_ne]
  constructor
  · intro h h3; subst h3; exact h (getElem?_inj (seq_spec (n := n) (nd := nd)).1.nodup h1 h2)
  · intro h h3; subst h3; rw [h1] at h2; exact h (Option.some.inj h2)
theorem sorted_spec : Sorted n nd (blocksB n nd) (needsB n nd) := by
  have key : ∀ (k : Nat) l, (needsB n nd)[k]? = some l → k < (blocksB n nd).length ∧ l = (List.range (blocksB n nd).length).filter fun p => waitB nd (blocksB n nd) k p := by
    intro k l h
    unfold needsB at h
    rw [List.getElem?_map] at h
    rcases Nat.lt_or_ge k (blocksB n nd).length with hk | hk
    · rw [List.getElem?_range hk] at h
      exact ⟨hk, (Option.some.inj h).symm⟩
    · rw [List.getElem?_eq_none (by simpa using hk)] at h; cases h
  constructor
  · exact blocksB_spec
  · unfold needsB; simp
  · intro k l h j
    obtain ⟨_, rfl⟩ := key k l h
    rw [List.mem_filter, List.mem_range]
  · intro k l h
    obtain ⟨_, rfl⟩ := key k l h
    exact (range_rises _).filter _
  · intro k l h j hj
    obtain ⟨hk, rfl⟩ := key k l h
    rw [List.mem_filter, List.mem_range] at hj
    obtain ⟨hj1, hj2⟩ := hj
    rw [blocksB_len] at hk hj1
    obtain ⟨i, h1, h2⟩ := seq_at hk
    obtain ⟨i', h3, h4⟩ := seq_at hj1
    rw [wait_iff h1 h3] at hj2
    obtain ⟨hs, _⟩ := seq_spec (n := n) (nd := nd)
    obtain ⟨m, hm, hm2⟩ := hs.before k i h1 i' h4 hj2
    rw [getElem?_inj hs.nodup h3 hm2]
    exact hm
theorem levels_snoc (l : List (List Nat)) (b : List Nat) : levelsB (l ++ [b]) = levelsB l ++ [b.foldl (fun m k => max m ((levelsB l).getD k 0 + 1)) 0] := by
  unfold levelsB; rw [List.foldl_append]; rfl
theorem levels_len : ∀ (m : Nat) (l : List (List Nat)), l.length = m → (levelsB l).length = m := by
  intro m
  induction m with
  | zero => intro l h; rw [List.eq_nil_of_length_eq_zero h]; rfl
  | succ m ih =>
    intro l h
    have hne : l ≠ [] := fun e => by rw [e] at h; cases h
    rw [← List.dropLast_concat_getLast hne, levels_snoc, List.length_append, ih l.dropLast (by rw [List.length_dropLast]; omega)]; rfl
end
end Go.Proofs.Ytmfcefakpfbaoaa.Blt
end
section
set_option linter.unusedVariables false
set_option linter.unusedSimpArgs false
namespace Go.Proofs.Ytmfcefakpfbaoaa.Blt
section
variable {n : Nat} {nd : Nat → Nat → Bool}
def unm (S : List Bool) : Nat := S.countP (fun b => !b)
theorem unm_set {S : List Bool} {k : Nat} (hk : k < S.length) (h : S.getD k false = false) : unm (S.set k true) + 1 = unm S := by
  induction S generalizing k with
  | nil => simp at hk
  | cons a t ih =>
    cases k with
    | zero =>
      have : a = false := by simpa using h
      subst this
      simp [unm, List.countP_cons]
    | succ k =>
      have := ih (k := k) (by simpa using hk) (by simpa using h)
      simp only [unm, List.set_cons_succ, List.countP_cons] at *
      omega
theorem getD_set {S : List Bool} {k j : Nat} (hk : k < S.length) : (S.set k true).getD j false = (decide (k = j) || S.getD j false) := by
  rw [List.getD_eq_getElem?_getD, List.getD_eq_getElem?_getD, List.getElem?_set]
  by_cases e : k = j
  · subst e; simp [hk]
  · simp [e]
structure Part (n : Nat) (nd : Nat → Nat → Bool) (f : Nat) (l : List Nat) (S S' : List Bool) : Prop where
  len : S'.length = n
  cnt : unm S' ≤ unm S
  mono : ∀ k, S.getD k false = true → S'.getD k false = true
  new : ∀ k, S'.getD k false = true → S.getD k false = true ∨ Reach (Rel n nd) f k
  all : ∀ k, S'.getD k false = true → S.getD k false = false → ∀ j, j < n → nd k j = true → S'.getD j false = true
  seen : ∀ k ∈ l, S'.getD k false = true
structure Dfs (n : Nat) (nd : Nat → Nat → Bool) (f : Nat) (S S' : List Bool) : Prop where
  len : S'.length = n
  cnt : unm S' ≤ unm S
  mono : ∀ k, S.getD k false = true → S'.getD k false = true
  new : ∀ k, S'.getD k false = true → S.getD k false = true ∨ Reach (Rel n nd) f k
  all : ∀ k, S'.getD k false = true → S.getD k false = false → ∀ j, j < n → nd k j = true → S'.getD j false = true
  here : ∀ k, k < n → nd f k = true → S'.getD k false = true
theorem Part.start {f : Nat} {S : List Bool} (h : S.length = n) : Part n nd f [] S S :=
  ⟨h, Nat.le_refl _, fun _ h => h, fun _ h => .inl h, (fun k h1 h2 => by rw [h1] at h2; cases h2), (fun k h => by cases h)⟩
theorem Part.old {f k : Nat} {l : List Nat} {S S' : List Bool} (h : Part n nd f l S S') (hk : S'.getD k false = true) : Part n nd f (l ++ [k]) S S' :=
  ⟨h.len, h.cnt, h.mono, h.new, h.all, fun j hj => by
    rcases List.mem_append.1 hj with hj | hj
    · exact h.seen j hj
    · rw [List.mem_singleton.1 hj]; exact hk⟩
theorem Part.step {f k : Nat} {l : List Nat} {S S' S'' : List Bool} (h : Part n nd f l S S') (hf : f < n) (hkn : k < n) (hk : S'.getD k false = false) (hn : nd f k = true) (hd : Dfs n nd k (S'.set k true) S'') : Part n nd f (l ++ [k]) S S'' := by
  have hkl : k < S'.length := by rw [h.len]; exact hkn
  have hm : ∀ j, S'.getD j false = true → S''.getD j false = true := fun j hj => hd.mono j (by rw [getD_set hkl, hj, Bool.or_true])
  have hkk : S''.getD k false = true := hd.mono k (by rw [getD_set hkl]; simp)
  have h1 := unm_set hkl hk
  have one : Reach (Rel n nd) f k := .one ⟨hf, hkn, hn⟩
  refine ⟨hd.len, by have := hd.cnt; have := h.cnt; omega, fun j hj => hm j (h.mono j hj), fun j hj => ?_, fun j hj1 hj2 i hi hni => ?_, fun j hj => ?_⟩
  · rcases hd.new j hj with h2 | h2
    · rw [getD_set hkl] at h2
      by_cases e : k = j
      · subst e; exact .inr one
      · rw [decide_eq_false e, Bool.false_or] at h2
        exact h.new j h2
    · exact .inr (one.trans h2)
  · by_cases h2 : (S'.set k true).getD j false = true
    · rw [getD_set hkl] at h2
      by_cases e : k = j
      · subst e; exact hd.here i hi hni
      · rw [decide_eq_false e, Bool.false_or] at h2
        exact hm i (h.all j h2 hj2 i hi hni)
    · exact hd.all j hj1 (by simpa using h2) i hi hni
  · rcases List.mem_append.1 hj with hj | hj
    · exact hm j (h.seen j hj)
    · rw [List.mem_singleton.1 hj]; exact hkk
theorem Part.done {f : Nat} {l : List Nat} {S S' : List Bool} (h : Part n nd f l S S') (hl : ∀ k, k < n → nd f k = true → k ∈ l) : Dfs n nd f S S' :=
  ⟨h.len, h.cnt, h.mono, h.new, h.all, fun k hk hn => h.seen k (hl k hk hn)⟩
theorem Dfs.reach {e : Nat} (he : e < n) {S' : List Bool} (h : Dfs n nd e (List.replicate n false) S') : S' = reachB n nd e := by
  have z : ∀ k, (List.replicate n false).getD k false = false := fun k => by
    rw [List.getD_eq_getElem?_getD, List.getElem?_replicate]; split <;> rfl
  have cl : ∀ a b, Reach (Rel n nd) a b → S'.getD a false = true → S'.getD b false = true := by
    intro a b hr
    induction hr with
    | one hr => exact fun ha => h.all _ ha (z _) _ hr.2.1 hr.2.2
    | more hr _ ih => exact fun ha => ih (h.all _ ha (z _) _ hr.2.1 hr.2.2)
  have fwd : ∀ b, Reach (Rel n nd) e b → S'.getD b false = true := by
    intro b hr
    cases hr with
    | one hr => exact h.here _ hr.2.1 hr.2.2
    | more hr h2 => exact cl _ _ h2 (h.here _ hr.2.1 hr.2.2)
  have key : ∀ k, S'.getD k false = (reachB n nd e).getD k false := fun k => by
    rw [Bool.eq_iff_iff, reachB_iff he]
    refine ⟨fun hk => ?_, fwd k⟩
    rcases h.new k hk with h1 | h1
    · rw [z] at h1; cases h1
    · exact h1
  refine List.ext_getElem? fun k => ?_
  by_cases hk : k < n
  · have h1 : k < S'.length := by rw [h.len]; exact hk
    have h2 : k < (reachB n nd e).length := by rw [reachB_len]; exact hk
    have := key k
    rw [List.getD_eq_getElem?_getD, List.getD_eq_getElem?_getD, List.getElem?_eq_getElem h1, List.getElem?_eq_getElem h2] at this
    rw [List.getElem?_eq_getElem h1, List.getElem?_eq_getElem h2]
    simpa using this
  · rw [List.getElem?_eq_none (by rw [h.len]; omega), List.getElem?_eq_none (by rw [reachB_len]; omega)]
end
end Go.Proofs.Ytmfcefakpfbaoaa.Blt
end
