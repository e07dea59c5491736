/- Lemmas for RowBltOrder. -/
import Derived.Test.YtmfcefakpfbaoaaZBmJ
section
set_option linter.unusedVariables false
set_option linter.unusedSimpArgs false
namespace Go.Proofs.Ytmfcefakpfbaoaa.PMatch
open Go.RowKit Go.Proofs.YtmfcefakpfbaoaaW.PrintWords Go.Proofs.YtmfcefakpfbaoaaW.PrintLast Go.Proofs.YtmfcefakpfbaoaaW.PrintMore
open Blt (ints blocksB needsB)
def blkI (bl : List (List Nat)) (e : Nat) : Nat := bl.findIdx fun b => b.contains e
theorem parts_ok {n : Nat} {bl : List (List Nat)} (hlt : ∀ (i : Nat) b, bl[i]? = some b → ∀ e ∈ b, e < n) (hone : ∀ (i j : Nat) b c e, bl[i]? = some b → bl[j]? = some c → e ∈ b → e ∈ c → i = j)
    (hall : ∀ e, e < n → ∃ (i : Nat) (b : List Nat), bl[i]? = some b ∧ e ∈ b) (hnd : ∀ (i : Nat) b, bl[i]? = some b → b.Nodup) : Parts n bl (blkI bl) := by
  have hmem : ∀ e, e ∈ bl.flatten ↔ ∃ (i : Nat) (b : List Nat), bl[i]? = some b ∧ e ∈ b := fun e => by
    rw [List.mem_flatten]
    constructor
    · rintro ⟨b, hb, he⟩
      obtain ⟨i, hi⟩ := List.getElem?_of_mem hb
      exact ⟨i, b, hi, he⟩
    · rintro ⟨i, b, hb, he⟩
      exact ⟨b, List.mem_of_getElem? hb, he⟩
  have hndf : bl.flatten.Nodup := by
    rw [List.Nodup, List.pairwise_flatten]
    refine ⟨fun b hb => ?_, ?_⟩
    · obtain ⟨i, hi⟩ := List.getElem?_of_mem hb
      exact hnd i b hi
    · rw [List.pairwise_iff_getElem]
      intro i j hi hj hij x hx y hy e
      subst e
      have := hone i j _ _ x (List.getElem?_eq_getElem hi) (List.getElem?_eq_getElem hj) hx hy
      omega
  refine ⟨hlt, fun i b hb e he => ?_, hndf, ?_, fun e he => (hmem e).2 (hall e he)⟩
  · have hi := (List.getElem?_eq_some_iff.1 hb)
    have h1 : blkI bl e < bl.length := by
      unfold blkI
      rw [List.findIdx_lt_length]
      exact ⟨b, List.mem_of_getElem? hb, by simpa using he⟩
    have h2 := List.findIdx_getElem (p := fun b : List Nat => b.contains e) (xs := bl) (w := h1)
    exact hone _ _ _ _ e (List.getElem?_eq_getElem h1) hb (by simpa [blkI] using h2) he
  · apply Nat.le_antisymm
    · have := Blt.len_le bl.flatten (List.range n) hndf (fun e he => by
        obtain ⟨i, b, hb, h⟩ := (hmem e).1 he
        exact List.mem_range.2 (hlt i b hb e h))
      simpa using this
    · have := Blt.len_le (List.range n) bl.flatten List.nodup_range (fun e he => (hmem e).2 (hall e (List.mem_range.1 he)))
      simpa using this
theorem parts_blocks {n : Nat} {nd : Nat → Nat → Bool} : Parts n (blocksB n nd) (blkI (blocksB n nd)) :=
  parts_ok (Blt.blocksB_spec).lt (Blt.blocksB_spec).one (Blt.blocksB_spec).all (fun i b hb => ((Blt.blocksB_spec).rises i b hb).imp (fun h => by omega))
def usesN (m : List Int) (b : List Nat) : List Nat := (usesOf m b).map Int.toNat
theorem mem_usesN {m : List Int} {b : List Nat} {u : Nat} : u ∈ usesN m b ↔ ∃ e ∈ b, (rd m (e : Int)).toNat = u := by
  rw [usesN, usesOf, List.mem_map]
  simp only [List.mem_mergeSort, List.mem_map]
  constructor
  · rintro ⟨x, ⟨e, he, rfl⟩, h⟩; exact ⟨e, he, h⟩
  · rintro ⟨e, he, h⟩; exact ⟨_, ⟨e, he, rfl⟩, h⟩
theorem parts_uses {n : Nat} {bl : List (List Nat)} {P : Nat → Nat} {m : List Int} (hp : Parts n bl P) (hb : ∀ (i : Nat) b, bl[i]? = some b → b.Nodup) (hm : ∀ e : Nat, e < n → 0 ≤ rd m e ∧ rd m e < n) (hi : ∀ e f : Nat, e < n → f < n → rd m e = rd m f → e = f) :
    Parts n (bl.map (usesN m)) (blkI (bl.map (usesN m))) ∧ ∀ e : Nat, e < n → blkI (bl.map (usesN m)) (rd m e).toNat = P e := by
  have hiN : ∀ e f : Nat, e < n → f < n → (rd m e).toNat = (rd m f).toNat → e = f := fun e f he hf h => hi e f he hf (by have := hm e he; have := hm f hf; omega)
  have hat : ∀ (i : Nat) c, (bl.map (usesN m))[i]? = some c → ∃ b, bl[i]? = some b ∧ c = usesN m b := fun i c hc => by
    rw [List.getElem?_map] at hc
    cases hx : bl[i]? with
    | none => rw [hx] at hc; cases hc
    | some b => rw [hx] at hc; injection hc with hc; exact ⟨b, rfl, hc.symm⟩
  have hone : ∀ (i j : Nat) b c u, (bl.map (usesN m))[i]? = some b → (bl.map (usesN m))[j]? = some c → u ∈ b → u ∈ c → i = j := by
    intro i j b c u h1 h2 h3 h4
    obtain ⟨b', hb', rfl⟩ := hat i b h1
    obtain ⟨c', hc', rfl⟩ := hat j c h2
    obtain ⟨e, he, h5⟩ := mem_usesN.1 h3
    obtain ⟨f, hf, h6⟩ := mem_usesN.1 h4
    obtain rfl := hiN e f (hp.lt i b' hb' e he) (hp.lt j c' hc' f hf) (h5.trans h6.symm)
    rw [← hp.at_ i b' hb' e he, ← hp.at_ j c' hc' e hf]
  have hsur : ∀ u, u < n → ∃ e, e < n ∧ (rd m (e : Int)).toNat = u := fun u hu => by
    apply Classical.byContradiction
    intro h
    have h1 : (u :: (List.range n).map fun (e : Nat) => (rd m (e : Int)).toNat).Nodup := by
      rw [List.nodup_cons]
      refine ⟨fun hx => ?_, ?_⟩
      · obtain ⟨e, he, h2⟩ := List.mem_map.1 hx
        exact h ⟨e, List.mem_range.1 he, h2⟩
      · rw [List.Nodup, List.pairwise_map]
        exact (List.pairwise_lt_range (n := n)).imp_of_mem (fun {a b} ha hb hab e => by
          have := hiN a b (List.mem_range.1 ha) (List.mem_range.1 hb) e
          omega)
    have h2 := Blt.len_le _ (List.range n) h1 (fun x hx => by
      rw [List.mem_range]
      rcases List.mem_cons.1 hx with rfl | hx
      · exact hu
      · obtain ⟨e, he, rfl⟩ := List.mem_map.1 hx
        have := hm e (List.mem_range.1 he)
        omega)
    simp at h2
    omega
  have hin : ∀ e : Nat, e < n → ∃ b, bl[P e]? = some b ∧ e ∈ b := fun e he => by
    have h1 := hp.all e he
    rw [List.mem_flatten] at h1
    obtain ⟨b, hb1, he1⟩ := h1
    obtain ⟨i, hi1⟩ := List.getElem?_of_mem hb1
    rw [hp.at_ i b hi1 e he1]
    exact ⟨b, hi1, he1⟩
  have hparts : Parts n (bl.map (usesN m)) (blkI (bl.map (usesN m))) := by
    refine parts_ok (fun i c hc u hu => ?_) hone (fun u hu => ?_) (fun i c hc => ?_)
    · obtain ⟨b, hb1, rfl⟩ := hat i c hc
      obtain ⟨e, he, rfl⟩ := mem_usesN.1 hu
      have := hm e (hp.lt i b hb1 e he)
      omega
    · obtain ⟨e, he, rfl⟩ := hsur u hu
      obtain ⟨b, hb1, hb2⟩ := hin e he
      exact ⟨P e, usesN m b, by rw [List.getElem?_map, hb1]; rfl, mem_usesN.2 ⟨e, hb2, rfl⟩⟩
    · obtain ⟨b, hb1, rfl⟩ := hat i c hc
      have h1 : (usesOf m b).Nodup := by
        rw [usesOf, (List.mergeSort_perm _ _).nodup_iff]
        rw [List.Nodup, List.pairwise_map]
        exact (hb i b hb1).imp_of_mem (fun {x y} hx hy hxy e => hxy (hi x y (hp.lt i b hb1 x hx) (hp.lt i b hb1 y hy) e))
      rw [usesN, List.Nodup, List.pairwise_map]
      refine h1.imp_of_mem (fun {x y} hx hy hxy e => hxy ?_)
      simp only [usesOf, List.mem_mergeSort, List.mem_map] at hx hy
      obtain ⟨e1, he1, rfl⟩ := hx
      obtain ⟨e2, he2, rfl⟩ := hy
      have h3 := hm e1 (hp.lt i b hb1 e1 he1)
      have h4 := hm e2 (hp.lt i b hb1 e2 he2)
      omega
  refine ⟨hparts, fun e he => ?_⟩
  obtain ⟨b, hb1, hb2⟩ := hin e he
  exact hparts.at_ (P e) (usesN m b) (by rw [List.getElem?_map, hb1]; rfl) _ (mem_usesN.2 ⟨e, hb2, rfl⟩)
theorem bytes_irr : ∀ x : List UInt8, Op.bytesLess x x = false
  | [] => rfl
  | a :: x => by rw [Op.bytesLess, bytes_irr x]; simp
theorem bytes_trans : ∀ {x y z : List UInt8}, Op.bytesLess x y = true → Op.bytesLess y z = true → Op.bytesLess x z = true
  | [], [], _, h, _ => by simp [Op.bytesLess] at h
  | _ :: _, [], _, h, _ => by simp [Op.bytesLess] at h
  | [], _ :: _, [], _, h => by simp [Op.bytesLess] at h
  | [], _ :: _, _ :: _, _, _ => rfl
  | _ :: _, _ :: _, [], _, h => by simp [Op.bytesLess] at h
  | a :: x, b :: y, c :: z, h1, h2 => by
    simp only [Op.bytesLess, Bool.or_eq_true, decide_eq_true_eq, Bool.and_eq_true, beq_iff_eq] at h1 h2 ⊢
    rcases h1 with h1 | ⟨rfl, h1⟩
    · rcases h2 with h2 | ⟨rfl, h2⟩
      · exact .inl (UInt8.lt_trans h1 h2)
      · exact .inl h1
    · rcases h2 with h2 | ⟨rfl, h2⟩
      · exact .inl h2
      · exact .inr ⟨rfl, bytes_trans h1 h2⟩
theorem rise_all {n : Nat} {R : Nat → Nat → Prop} (htr : ∀ i j k, R i j → R j k → R i k) (h : ∀ i, i + 1 < n → R i (i + 1)) : ∀ d i, i + d + 1 < n → R i (i + d + 1)
  | 0, i, hi => h i hi
  | d + 1, i, hi => htr _ _ _ (rise_all htr h d i (by omega)) (h (i + d + 1) (by omega))
theorem Good.apart {E : List ByteArray} {U : List S47} {J : List (List Int)} (h : Good E U J) {i j : Nat} (hij : i < j) (hj : j < E.length) : (E.getD i ByteArray.empty).toList ≠ (E.getD j ByteArray.empty).toList := by
  have hr := rise_all (n := E.length) (R := fun i j => Op.bytesLess (E.getD i ByteArray.empty).toList (E.getD j ByteArray.empty).toList = true) (fun _ _ _ => bytes_trans) (fun k hk => by
    have h1 := (h.names (k + 1) hk).2 (by omega)
    rw [show ((k + 1 : Nat) : Int) - 1 = (k : Int) by omega, rdOf, rdOf, Int.toNat_natCast, Int.toNat_natCast] at h1
    exact h1) (j - i - 1) i (by omega)
  rw [show i + (j - i - 1) + 1 = j by omega] at hr
  intro e
  rw [e, bytes_irr] at hr
  cases hr
def ltU (x y : S47) : Prop := Op.bytesLess x.f0.toList y.f0.toList = true ∨ (x.f0.toList = y.f0.toList ∧ x.f1 < y.f1)
theorem ltU_trans {x y z : S47} (h1 : ltU x y) (h2 : ltU y z) : ltU x z := by
  rcases h1 with h1 | ⟨h1, h3⟩
  · rcases h2 with h2 | ⟨h2, h4⟩
    · exact .inl (bytes_trans h1 h2)
    · exact .inl (h2 ▸ h1)
  · rcases h2 with h2 | ⟨h2, h4⟩
    · exact .inl (by rw [h1]; exact h2)
    · exact .inr ⟨h1.trans h2, by omega⟩
theorem Good.apartU {E : List ByteArray} {U : List S47} {J : List (List Int)} (h : Good E U J) {i j : Nat} (hij : i < j) (hj : j < U.length) : ltU (U.getD i z47) (U.getD j z47) := by
  have hr := rise_all (n := U.length) (R := fun i j => ltU (U.getD i z47) (U.getD j z47)) (fun _ _ _ => ltU_trans) (fun k hk => by
    have h1 := (h.uses (k + 1) hk).2.2 (by omega)
    have h2 := (h.uses (k + 1) hk).2.1
    have h3 := (h.uses k (by omega)).2.1
    rw [show ((k + 1 : Nat) : Int) - 1 = (k : Int) by omega] at h1
    rw [rd_T47, Int.toNat_natCast] at h2 h3
    rw [rd_T47, rd_T47, Int.toNat_natCast, Int.toNat_natCast, h2, h3] at h1
    unfold befB at h1
    by_cases hn : (U.getD k z47).f0.toList = (U.getD (k + 1) z47).f0.toList
    · rw [if_pos hn] at h1
      exact .inr ⟨hn, by simpa using h1⟩
    · rw [if_neg hn] at h1
      exact .inl h1) (j - i - 1) i (by omega)
  rw [show i + (j - i - 1) + 1 = j by omega] at hr
  exact hr
theorem ltU_ne {x y : S47} (h : ltU x y) : x.f0.toList = y.f0.toList → ¬ x.f1 = y.f1 := by
  intro e1 e2
  rcases h with h | ⟨_, h⟩
  · rw [e1, bytes_irr] at h; cases h
  · omega
theorem Good.uses_ne {E : List ByteArray} {U : List S47} {J : List (List Int)} (h : Good E U J) {i j : Nat} (hi : i < U.length) (hj : j < U.length) (hij : i ≠ j) : (U.getD i z47).f0.toList = (U.getD j z47).f0.toList → (U.getD i z47).f1 = (U.getD j z47).f1 → ¬ (U.getD i z47).f2 = (U.getD j z47).f2 := by
  intro e1 e2 _
  rcases Nat.lt_or_gt_of_ne hij with h1 | h1
  · exact ltU_ne (h.apartU h1 hj) e1 e2
  · exact ltU_ne (h.apartU h1 hi) e1.symm e2.symm
end Go.Proofs.Ytmfcefakpfbaoaa.PMatch
end
