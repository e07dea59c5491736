/- Lemmas for RowBltAny. -/
import Derived.Test.YtmfcefakpfbaoaaQB
section
set_option linter.unusedVariables false
set_option linter.unusedSimpArgs false
namespace Go.Proofs.Ytmfcefakpfbaoaa.Blt
def posL (seq : List Nat) (i : Nat) : Int := match seq.idxOf? i with
  | some k => k
  | none => -1
theorem posL_none {seq : List Nat} {i : Nat} (h : i ∉ seq) : posL seq i = -1 := by
  unfold posL
  rw [List.idxOf?_eq_none_iff.2 h]
theorem posL_some {seq : List Nat} {i k : Nat} (hn : seq.Nodup) (h : seq[k]? = some i) : posL seq i = k := by
  have hm : i ∈ seq := List.mem_of_getElem? h
  unfold posL
  cases hx : seq.idxOf? i with
  | none => exact absurd hm (List.idxOf?_eq_none_iff.1 hx)
  | some j =>
    have h1 : seq[j]? = some i := by
      rw [List.idxOf?, List.findIdx?_eq_some_iff_getElem] at hx
      obtain ⟨hj, h2, _⟩ := hx
      rw [List.getElem?_eq_getElem hj]
      exact congrArg some (by simpa using h2)
    rw [getElem?_inj hn h1 h]
theorem posL_mem {seq : List Nat} {i : Nat} (hn : seq.Nodup) (h : i ∈ seq) : ∃ k : Nat, seq[k]? = some i ∧ posL seq i = k := by
  obtain ⟨k, hk⟩ := List.getElem?_of_mem h
  exact ⟨k, hk, posL_some hn hk⟩
theorem posL_neg {seq : List Nat} {i : Nat} (hn : seq.Nodup) : posL seq i < 0 ↔ i ∉ seq := by
  constructor
  · intro h hm
    obtain ⟨k, _, hk⟩ := posL_mem hn hm
    omega
  · intro h
    rw [posL_none h]; decide
def placeL (N : Nat) (seq : List Nat) : List Int := (List.range N).map (posL seq)
theorem placeL_len {N : Nat} {seq : List Nat} : (placeL N seq).length = N := by simp [placeL]
theorem placeL_at {N i : Nat} {seq : List Nat} (h : i < N) : (placeL N seq).getD i 0 = posL seq i := by
  rw [List.getD_eq_getElem?_getD, placeL, List.getElem?_map, List.getElem?_range h]; rfl
theorem placeL_nil {N : Nat} : placeL N [] = List.replicate N (-1) := by
  apply List.ext_getElem
  · simp [placeL]
  · intro i h1 h2
    simp [placeL, posL]
theorem placeL_snoc {N i : Nat} {seq : List Nat} (hn : seq.Nodup) (hi : i ∉ seq) (hN : i < N) : (placeL N seq).set i (seq.length : Int) = placeL N (seq ++ [i]) := by
  have hn2 : (seq ++ [i]).Nodup := by
    rw [List.nodup_append]
    exact ⟨hn, by simp, fun a ha b hb => by simp at hb; subst hb; exact fun e => hi (e ▸ ha)⟩
  apply List.ext_getElem
  · simp [placeL]
  · intro j h1 h2
    have hj : j < N := by simpa [placeL] using h2
    rw [List.getElem_set]
    by_cases e : i = j
    · subst e
      rw [if_pos rfl]
      simp only [placeL, List.getElem_map, List.getElem_range]
      exact (posL_some hn2 (by rw [List.getElem?_append_right (Nat.le_refl _)]; simp)).symm
    · rw [if_neg e]
      simp only [placeL, List.getElem_map, List.getElem_range]
      by_cases hm : j ∈ seq
      · obtain ⟨k, h3, h4⟩ := posL_mem hn hm
        rw [h4, posL_some hn2 (by rw [List.getElem?_append_left (List.getElem?_eq_some_iff.1 h3).1]; exact h3)]
      · rw [posL_none hm, posL_none (by rw [List.mem_append, not_or]; exact ⟨hm, by simp; omega⟩)]
def freeB (N : Nat) (w : Nat → Nat → Bool) (seq : List Nat) (i : Nat) : Bool := !seq.contains i && (List.range N).all fun j => !w i j || seq.contains j
theorem freeB_iff {N : Nat} {w : Nat → Nat → Bool} {seq : List Nat} {i : Nat} : freeB N w seq i = true ↔ i ∉ seq ∧ ∀ j, j < N → w i j = true → j ∈ seq := by
  unfold freeB
  simp only [Bool.and_eq_true, Bool.not_eq_true', List.all_eq_true, Bool.or_eq_true, List.mem_range]
  constructor
  · rintro ⟨h1, h2⟩
    refine ⟨(fun hm => by rw [List.contains_iff_mem.2 hm] at h1; cases h1), fun j hj hw => ?_⟩
    rcases h2 j hj with h | h
    · rw [hw] at h; cases h
    · exact List.contains_iff_mem.1 h
  · rintro ⟨h1, h2⟩
    refine ⟨?_, fun j hj => ?_⟩
    · cases h : seq.contains i
      · rfl
      · exact absurd (List.contains_iff_mem.1 h) h1
    · cases hw : w i j
      · exact .inl rfl
      · exact .inr (List.contains_iff_mem.2 (h2 j hj hw))
theorem pick_of {N : Nat} {w : Nat → Nat → Bool} {seq : List Nat} {i : Nat} (hi : i < N) (h : freeB N w seq i = true) (hb : ∀ j, j < i → freeB N w seq j = false) : pickB N w seq = some i := by
  show (List.range N).find? (freeB N w seq) = some i
  rw [List.find?_range_eq_some]
  exact ⟨h, List.mem_range.2 hi, fun j hj => by rw [hb j hj]; rfl⟩
theorem pick_all {N : Nat} {w : Nat → Nat → Bool} {seq : List Nat} (hb : ∀ j, j < N → freeB N w seq j = false) : pickB N w seq = none := by
  show (List.range N).find? (freeB N w seq) = none
  rw [List.find?_eq_none]
  intro j hj h
  rw [hb j (List.mem_range.1 hj)] at h; cases h
theorem orderB_prefix {N : Nat} {w : Nat → Nat → Bool} : ∀ (m : Nat) (seq : List Nat), ∃ t, orderB N w m seq = seq ++ t
  | 0, seq => ⟨[], by simp [orderB]⟩
  | m + 1, seq => by
    unfold orderB
    cases pickB N w seq with
    | none => exact orderB_prefix m seq
    | some i =>
      obtain ⟨t, ht⟩ := orderB_prefix (N := N) (w := w) m (seq ++ [i])
      exact ⟨i :: t, by simp [ht]⟩
theorem orderB_step {N m i : Nat} {w : Nat → Nat → Bool} {seq : List Nat} (h : pickB N w seq = some i) : orderB N w (m + 1) seq = orderB N w m (seq ++ [i]) := by
  rw [orderB, h]
def leZ (x y : Int) : Bool := decide (x ≤ y)
theorem sorted_one {l l' : List Int} (hl : l.Nodup) (hl' : l'.Pairwise (· < ·)) (hm : ∀ x, x ∈ l ↔ x ∈ l') : l.mergeSort leZ = l' := by
  have tr : ∀ a b c : Int, leZ a b = true → leZ b c = true → leZ a c = true := fun a b c h1 h2 => by simp only [leZ, decide_eq_true_eq] at *; omega
  have to : ∀ a b : Int, (leZ a b || leZ b a) = true := fun a b => by simp only [leZ, Bool.or_eq_true, decide_eq_true_eq]; omega
  have hn' : l'.Nodup := hl'.imp (fun h => by omega)
  have hp : l.Perm l' := (List.perm_ext_iff_of_nodup hl hn').2 hm
  refine List.Perm.eq_of_pairwise (le := fun a b => leZ a b = true) (fun a b _ _ h1 h2 => ?_) (List.pairwise_mergeSort tr to l) (hl'.imp (fun h => by simp only [leZ, decide_eq_true_eq]; omega)) ((List.mergeSort_perm l leZ).trans hp)
  simp only [leZ, decide_eq_true_eq] at h1 h2
  omega
section
variable {n : Nat} {nd : Nat → Nat → Bool}
def ints (l : List Nat) : List Int := l.map Int.ofNat
theorem needs_one {c i : Nat} {seq t : List Nat} (hs : seqB n nd = seq ++ t) (hc : seq.length = c) (hi : (seqB n nd)[c]? = some i) {l : List Int} (hl : l.Nodup)
    (hm : ∀ y, y ∈ l ↔ ∃ x, x < (blocks0 n nd).length ∧ waitB nd (blocks0 n nd) i x = true ∧ y = posL seq x) : (needsB n nd)[c]? = some ((List.range (blocksB n nd).length).filter fun p => waitB nd (blocksB n nd) c p) ∧ l.mergeSort leZ = ints ((List.range (blocksB n nd).length).filter fun p => waitB nd (blocksB n nd) c p) := by
  obtain ⟨hO, hL⟩ := seq_spec (n := n) (nd := nd)
  have hcN : c < (blocks0 n nd).length := by have := (List.getElem?_eq_some_iff.1 hi).1; omega
  have hns : seq.Nodup := by have := hO.nodup; rw [hs, List.nodup_append] at this; exact this.1
  have bef : ∀ x, x < (blocks0 n nd).length → waitB nd (blocks0 n nd) i x = true → ∃ m, m < c ∧ (seqB n nd)[m]? = some x ∧ posL seq x = m := fun x hx hw => by
    obtain ⟨m, h1, h2⟩ := hO.before c i hi x hx hw
    refine ⟨m, h1, h2, posL_some hns ?_⟩
    rw [hs, List.getElem?_append_left (by omega)] at h2
    exact h2
  refine ⟨?_, sorted_one hl ?_ fun y => ?_⟩
  · unfold needsB
    rw [List.getElem?_map, List.getElem?_range (by rw [blocksB_len]; exact hcN)]; rfl
  · unfold ints
    refine List.pairwise_map.2 (((range_rises _).filter _).imp fun {a b} h => ?_)
    show (a : Int) < (b : Int)
    omega
  · rw [hm]
    unfold ints
    rw [List.mem_map]
    constructor
    · rintro ⟨x, h1, h2, rfl⟩
      obtain ⟨m, h3, h4, h5⟩ := bef x h1 h2
      refine ⟨m, List.mem_filter.2 ⟨List.mem_range.2 (by rw [blocksB_len]; omega), ?_⟩, h5.symm⟩
      rw [wait_iff hi h4]; exact h2
    · rintro ⟨p, hp, rfl⟩
      obtain ⟨h1, h2⟩ := List.mem_filter.1 hp
      have h1 := List.mem_range.1 h1
      rw [blocksB_len] at h1
      obtain ⟨x, h3, h4⟩ := seq_at h1
      rw [wait_iff hi h3] at h2
      obtain ⟨m, h5, h6, h7⟩ := bef x h4 h2
      refine ⟨x, h4, h2, ?_⟩
      rw [h7, getElem?_inj hO.nodup h6 h3]; rfl
end
end Go.Proofs.Ytmfcefakpfbaoaa.Blt
end
section
set_option linter.unusedVariables false
set_option linter.unusedSimpArgs false
namespace Go.Proofs.Ytmfcefakpfbaoaa.Blt
def ofB (bl : List (List Nat)) (f : Nat) : Int := match bl.findIdx? (fun b => b.contains f) with
  | some i => i
  | none => -1
theorem ofB_cases (bl : List (List Nat)) (f : Nat) : (ofB bl f = -1 ∧ ∀ b ∈ bl, f ∉ b) ∨ ∃ (i : Nat) (b : List Nat), ofB bl f = i ∧ bl[i]? = some b ∧ f ∈ b := by
  unfold ofB
  cases h : bl.findIdx? (fun b => b.contains f) with
  | none =>
    refine .inl ⟨rfl, fun b hb hf => ?_⟩
    have := List.findIdx?_eq_none_iff.1 h b hb
    rw [List.contains_iff_mem.2 hf] at this; cases this
  | some i =>
    rw [List.findIdx?_eq_some_iff_getElem] at h
    obtain ⟨hi, h1, _⟩ := h
    exact .inr ⟨i, _, rfl, List.getElem?_eq_getElem hi, List.contains_iff_mem.1 h1⟩
theorem ofB_snoc (bl : List (List Nat)) (b : List Nat) (f : Nat) : ofB (bl ++ [b]) f = if 0 ≤ ofB bl f then ofB bl f else if f ∈ b then (bl.length : Int) else -1 := by
  unfold ofB
  rw [List.findIdx?_append]
  cases h : bl.findIdx? (fun b => b.contains f) with
  | some i => simp
  | none =>
    by_cases hf : f ∈ b
    · simp [hf]
    · simp [hf]
section
variable (n : Nat) (nd : Nat → Nat → Bool)
def blkE (e : Nat) : List (List Nat) := ((List.range e).filter (leadB n nd)).map fun e => (List.range n).filter (sameB n nd e)
end
section
variable {n : Nat} {nd : Nat → Nat → Bool}
theorem blkE_all : blkE n nd n = blocks0 n nd := rfl
theorem blkE_skip {e : Nat} (h : leadB n nd e = false) : blkE n nd (e + 1) = blkE n nd e := by
  unfold blkE
  rw [List.range_succ, List.filter_append, List.filter_cons, h]; simp
theorem blkE_add {e : Nat} (h : leadB n nd e = true) : blkE n nd (e + 1) = blkE n nd e ++ [(List.range n).filter (sameB n nd e)] := by
  unfold blkE
  rw [List.range_succ, List.filter_append, List.filter_cons, h]; simp
theorem blkE_len {e : Nat} : (blkE n nd e).length ≤ e := by
  unfold blkE
  rw [List.length_map]
  have := List.length_filter_le (leadB n nd) (List.range e)
  simpa using this
theorem in_blkE {e f : Nat} (he : e ≤ n) (hf : f < n) : (∃ b ∈ blkE n nd e, f ∈ b) ↔ ∃ l, l < e ∧ leadB n nd l = true ∧ Same (Rel n nd) l f := by
  unfold blkE
  constructor
  · rintro ⟨b, hb, hfb⟩
    obtain ⟨l, hl, rfl⟩ := List.mem_map.1 hb
    obtain ⟨h1, h2⟩ := List.mem_filter.1 hl
    have h1 := List.mem_range.1 h1
    obtain ⟨_, h3⟩ := List.mem_filter.1 hfb
    exact ⟨l, h1, h2, (sameB_iff (by omega) hf).1 h3⟩
  · rintro ⟨l, h1, h2, h3⟩
    exact ⟨_, List.mem_map.2 ⟨l, List.mem_filter.2 ⟨List.mem_range.2 h1, h2⟩, rfl⟩, List.mem_filter.2 ⟨List.mem_range.2 hf, (sameB_iff (by omega) hf).2 h3⟩⟩
theorem ofB_lead {e : Nat} (he : e < n) : 0 ≤ ofB (blkE n nd e) e ↔ leadB n nd e = false := by
  have key : 0 ≤ ofB (blkE n nd e) e ↔ ∃ b ∈ blkE n nd e, e ∈ b := by
    rcases ofB_cases (blkE n nd e) e with ⟨h1, h2⟩ | ⟨i, b, h1, h2, h3⟩
    · rw [h1]
      exact ⟨fun h => absurd h (by decide), fun ⟨b, hb, hf⟩ => absurd hf (h2 b hb)⟩
    · rw [h1]
      exact ⟨fun _ => ⟨b, List.mem_of_getElem? h2, h3⟩, fun _ => by omega⟩
  rw [key, in_blkE (by omega) he]
  constructor
  · rintro ⟨l, h1, h2, h3⟩
    cases hl : leadB n nd e
    · rfl
    · exact absurd h3 ((leadB_iff he).1 hl l h1)
  · intro h
    obtain ⟨l, h1, h2, h3⟩ := lead_of (nd := nd) he
    refine ⟨l, ?_, h2, h3⟩
    rcases Nat.lt_or_ge l e with h4 | h4
    · exact h4
    · obtain rfl : l = e := by omega
      rw [h] at h2; cases h2
theorem ofB_new {e f : Nat} (he : e < n) (hf : f < n) (hl : leadB n nd e = true) (hs : sameB n nd e f = true) : ofB (blkE n nd e) f = -1 := by
  rcases ofB_cases (blkE n nd e) f with ⟨h1, h2⟩ | ⟨i, b, h1, h2, h3⟩
  · exact h1
  · obtain ⟨l, h4, h5, h6⟩ := (in_blkE (by omega) hf).1 ⟨b, List.mem_of_getElem? h2, h3⟩
    exact absurd (h6.trans ((sameB_iff he hf).1 hs).symm) ((leadB_iff he).1 hl l h4)
def ofI (n : Nat) (nd : Nat → Nat → Bool) (bl : List (List Nat)) (e f0 : Nat) : List Int := (List.range n).map fun f => if f < f0 ∧ sameB n nd e f = true then (bl.length : Int) else ofB bl f
def ofBL (n : Nat) (bl : List (List Nat)) : List Int := (List.range n).map (ofB bl)
theorem ofBL_len {bl : List (List Nat)} : (ofBL n bl).length = n := by simp [ofBL]
theorem ofI_len {bl : List (List Nat)} {e f0 : Nat} : (ofI n nd bl e f0).length = n := by simp [ofI]
theorem ofBL_nil : ofBL n [] = List.replicate n (-1) := by
  apply List.ext_getElem
  · simp [ofBL]
  · intro i h1 h2; simp [ofBL, ofB]
theorem ofI_zero {bl : List (List Nat)} {e : Nat} : ofI n nd bl e 0 = ofBL n bl := by
  unfold ofI ofBL
  apply List.map_congr_left
  intro f _
  rw [if_neg (by omega)]
theorem ofI_yes {bl : List (List Nat)} {e f : Nat} (hf : f < n) (hs : sameB n nd e f = true) : (ofI n nd bl e f).set f (bl.length : Int) = ofI n nd bl e (f + 1) := by
  apply List.ext_getElem
  · rw [List.length_set, ofI_len, ofI_len]
  · intro i h1 h2
    rw [List.getElem_set]
    simp only [ofI, List.getElem_map, List.getElem_range]
    by_cases h : f = i
    · subst h
      rw [if_pos rfl, if_pos ⟨by omega, hs⟩]
    · rw [if_neg h]
      by_cases h3 : i < f ∧ sameB n nd e i = true
      · rw [if_pos h3, if_pos ⟨by omega, h3.2⟩]
      · rw [if_neg h3, if_neg (fun h4 => h3 ⟨by omega, h4.2⟩)]
theorem ofI_no {bl : List (List Nat)} {e f : Nat} (hs : sameB n nd e f = false) : ofI n nd bl e f = ofI n nd bl e (f + 1) := by
  unfold ofI
  apply List.map_congr_left
  intro i _
  by_cases h3 : i < f ∧ sameB n nd e i = true
  · rw [if_pos h3, if_pos ⟨by omega, h3.2⟩]
  · rw [if_neg h3, if_neg]
    rintro ⟨h4, h5⟩
    refine h3 ⟨?_, h5⟩
    rcases Nat.lt_or_ge i f with h6 | h6
    · exact h6
    · obtain rfl : i = f := by omega
      rw [hs] at h5; cases h5
theorem ofI_all {e : Nat} (he : e < n) (hl : leadB n nd e = true) : ofI n nd (blkE n nd e) e n = ofBL n (blkE n nd (e + 1)) := by
  rw [blkE_add hl]
  unfold ofI ofBL
  apply List.map_congr_left
  intro f hf
  have hfn := List.mem_range.1 hf
  rw [ofB_snoc]
  by_cases hs : sameB n nd e f = true
  · rw [if_pos ⟨hfn, hs⟩, ofB_new he hfn hl hs, if_neg (by decide), if_pos (List.mem_filter.2 ⟨hf, hs⟩)]
  · rw [if_neg (fun h => hs h.2)]
    rcases ofB_cases (blkE n nd e) f with ⟨h1, h2⟩ | ⟨i, b, h1, h2, h3⟩
    · rw [h1, if_neg (by decide), if_neg (fun h => hs (List.mem_filter.1 h).2)]
    · rw [h1, if_pos (by omega)]
theorem ofBL_at {bl : List (List Nat)} {f : Nat} (hf : f < n) : (ofBL n bl).getD f 0 = ofB bl f := by
  rw [List.getD_eq_getElem?_getD, ofBL, List.getElem?_map, List.getElem?_range hf]; rfl
theorem ofB_full {f : Nat} (hf : f < n) : ∃ i : Nat, ofB (blocks0 n nd) f = i ∧ ∃ b, (blocks0 n nd)[i]? = some b ∧ f ∈ b := by
  rcases ofB_cases (blocks0 n nd) f with ⟨h1, h2⟩ | ⟨i, b, h1, h2, h3⟩
  · obtain ⟨i, b, h3, h4⟩ := (blocks0_spec (n := n) (nd := nd)).all f hf
    exact absurd h4 (h2 b (List.mem_of_getElem? h3))
  · exact ⟨i, h1, b, h2, h3⟩
theorem range_yes {e f : Nat} (hs : sameB n nd e f = true) : (List.range (f + 1)).filter (sameB n nd e) = (List.range f).filter (sameB n nd e) ++ [f] := by
  rw [List.range_succ, List.filter_append, List.filter_cons, hs]; simp
theorem range_no {e f : Nat} (hs : sameB n nd e f = false) : (List.range (f + 1)).filter (sameB n nd e) = (List.range f).filter (sameB n nd e) := by
  rw [List.range_succ, List.filter_append, List.filter_cons, hs]; simp
end
end Go.Proofs.Ytmfcefakpfbaoaa.Blt
end
