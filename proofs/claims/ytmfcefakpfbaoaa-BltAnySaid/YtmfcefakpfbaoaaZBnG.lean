/- Lemmas for RowBltAny. -/
import Derived.Test.YtmfcefakpfbaoaaZBnF
section
set_option linter.unusedVariables false
set_option linter.unusedSimpArgs false
namespace Go.Proofs.Ytmfcefakpfbaoaa.PMatch
open Go.RowKit Go.Proofs.YtmfcefakpfbaoaaW.PrintWords Go.Proofs.YtmfcefakpfbaoaaW.PrintLast Go.Proofs.YtmfcefakpfbaoaaW.PrintMore
open Blt (ints blocksB needsB levelsB waitB blocks0 sameB leadB Rel Same)
def nmC (p : UInt8) (i : Nat) : ByteArray := ⟨#[p, UInt8.ofNat (97 + i)]⟩
def useH (i : Nat) : S47 := ⟨nmC 118 i, 0, false⟩
def EH (n : Nat) : List ByteArray := (List.range n).map (nmC 102)
def UH (n : Nat) : List S47 := (List.range n).map useH
def rowH (J : List (List Int)) (At : List Nat) (n e : Nat) : List Nat := (List.range n).filter fun k => decide (((At.getD k 0 : Nat) : Int) ∈ rd_L4 J e)
def JH (J : List (List Int)) (At : List Nat) (n : Nat) : List (List Int) := (List.range n).map fun e => ints (rowH J At n e)
theorem EH_get {n i : Nat} (hi : i < n) : (EH n).getD i ByteArray.empty = nmC 102 i := by simp [EH, List.getD_eq_getElem?_getD, hi]
theorem UH_get {n i : Nat} (hi : i < n) : (UH n).getD i z47 = useH i := by simp [UH, List.getD_eq_getElem?_getD, hi]
theorem JH_get {J : List (List Int)} {At : List Nat} {n e : Nat} (he : e < n) : rd_L4 (JH J At n) (e : Int) = ints (rowH J At n e) := by
  rw [rd_L4, Int.toNat_natCast, JH, List.getD_eq_getElem?_getD, List.getElem?_map, List.getElem?_range he]; rfl
theorem EH_len {n : Nat} : (EH n).length = n := by simp [EH]
theorem UH_len {n : Nat} : (UH n).length = n := by simp [UH]
theorem JH_len {J : List (List Int)} {At : List Nat} {n : Nat} : (JH J At n).length = n := by simp [JH]
theorem mem_ints' {l : List Nat} {b : Nat} : ((b : Nat) : Int) ∈ ints l ↔ b ∈ l := by
  rw [ints, List.mem_map]
  constructor
  · rintro ⟨a, h, e⟩
    obtain rfl : a = b := Int.ofNat.inj e
    exact h
  · exact fun h => ⟨b, h, rfl⟩
theorem nmC_ok : ∀ i, i < 14 → nameB (nmC 102 i) = true := fun i hi => by
  rcases i with _ | _ | _ | _ | _ | _ | _ | _ | _ | _ | _ | _ | _ | _ | i
  all_goals first | omega | kernel_rfl
theorem nmC_lt : ∀ i, i < 14 → 0 < i → Op.bytesLess (nmC 102 (i - 1)).toList (nmC 102 i).toList = true := fun i hi h0 => by
  rcases i with _ | _ | _ | _ | _ | _ | _ | _ | _ | _ | _ | _ | _ | _ | i
  all_goals first | omega | kernel_rfl
theorem useH_ok : ∀ i, i < 14 → useB (useH i).f0 (useH i).f1 (useH i).f2 = true := fun i hi => by
  rcases i with _ | _ | _ | _ | _ | _ | _ | _ | _ | _ | _ | _ | _ | _ | i
  all_goals first | omega | kernel_rfl
theorem useH_lt : ∀ i, i < 14 → 0 < i → befB (useH (i - 1)).f0 (useH (i - 1)).f1 (useH (i - 1)).f2 (useH i).f0 (useH i).f1 (useH i).f2 = true := fun i hi h0 => by
  rcases i with _ | _ | _ | _ | _ | _ | _ | _ | _ | _ | _ | _ | _ | _ | i
  all_goals first | omega | kernel_rfl
theorem rowH_lt {J : List (List Int)} {At : List Nat} {n e k : Nat} (h : k ∈ rowH J At n e) : k < n ∧ ((At.getD k 0 : Nat) : Int) ∈ rd_L4 J e := by
  rw [rowH, List.mem_filter, List.mem_range, decide_eq_true_eq] at h; exact h
theorem rowH_up {J : List (List Int)} {At : List Nat} {n e : Nat} : (rowH J At n e).Pairwise (· < ·) := (Blt.range_rises n).filter _
theorem goodH {J : List (List Int)} {At : List Nat} {n : Nat} (hn : n ≤ 14) : Good (EH n) (UH n) (JH J At n) := by
  refine ⟨by rw [JH_len, EH_len], fun i hi => ?_, fun i hi => ?_, fun i hi k hk => ?_⟩
  · rw [EH_len] at hi
    refine upN_next (by rw [EH_get hi]; exact nmC_ok i (by omega)) ?_
    by_cases h0 : i = 0
    · exact .inl h0
    · exact .inr (by rw [EH_get hi, EH_get (by omega)]; exact nmC_lt i (by omega) (by omega))
  · rw [UH_len] at hi
    refine upU_next (by rw [UH_get hi]; exact useH_ok i (by omega)) (by rw [UH_get hi]; rfl) ?_
    by_cases h0 : i = 0
    · exact .inl h0
    · exact .inr (by rw [UH_get hi, UH_get (by omega)]; exact useH_lt i (by omega) (by omega))
  · rw [JH_len] at hi
    rw [JH_get hi, ints_len] at hk
    rw [JH_get hi, UH_len]
    have hget : ∀ j : Nat, j < (rowH J At n i).length → (rowH J At n i).getD j 0 ∈ rowH J At n i := fun j hj => by
      rw [List.getD_eq_getElem?_getD, List.getElem?_eq_getElem hj]; exact List.getElem_mem _
    have h1 := rowH_lt (hget k hk)
    refine ⟨by rw [rd_int]; omega, by rw [rd_int]; omega, fun h0 => ?_⟩
    rw [show (k : Int) - 1 = ((k - 1 : Nat) : Int) by omega, rd_int, rd_int]
    have h2 : (rowH J At n i).getD (k - 1) 0 < (rowH J At n i).getD k 0 := by
      rw [List.getD_eq_getElem?_getD, List.getElem?_eq_getElem (by omega), List.getD_eq_getElem?_getD, List.getElem?_eq_getElem hk]
      exact List.pairwise_iff_getElem.1 rowH_up (k - 1) k (by omega) hk (by omega)
    omega
theorem validH {J : List (List Int)} {At : List Nat} {n : Nat} (hn : n ≤ 14) : Valid (EH n) (UH n) (JH J At n) := (goodH hn).valid (by rw [EH_len]; omega) (by rw [UH_len]; omega)
section
variable {E : List ByteArray} {U : List S47} {J : List (List Int)} {m : List Int}
def Aof (J : List (List Int)) (e u : Nat) : Bool := decide ((u : Int) ∈ rd_L4 J e)
def Mof (m : List Int) (f : Nat) : Nat := (rd m f).toNat
theorem Solv.full (h : Solv E U J m) : Full E.length (Aof J) (Mof m) := by
  have hnu := h.has.1
  refine ⟨fun e he => ?_, fun e he => ?_, fun e f he hf hef => ?_⟩
  · have := h.ns e he; unfold Mof; omega
  · have h1 := h.ns e he
    unfold Aof Mof
    rw [decide_eq_true_eq]
    rcases (h.valid.out h.matched).row e he with h4 | ⟨⟨j, hj, h5⟩, _⟩
    · omega
    · exact mem_rd.2 ⟨j, hj, by rw [h5]; omega⟩
  · have h1 := h.ns e he
    have h2 := h.ns f hf
    unfold Mof at hef
    exact h.inj e f he hf (by omega)
theorem Solv.nd (h : Solv E U J m) : blocksB E.length (ndB J m) = blocksB E.length (ndM (Aof J) (Mof m)) := by
  refine blocks_congr fun e f he hf => ?_
  have h1 := h.ns f hf
  unfold ndB ndM Aof Mof
  rw [show (((rd m (f : Int)).toNat : Nat) : Int) = rd m f by omega]
theorem perm_at {n : Nat} {At : List Nat} (hp : At.Perm (List.range n)) : At.length = n ∧ (∀ k, k < n → At.getD k 0 < n) ∧ (∀ i j, i < n → j < n → At.getD i 0 = At.getD j 0 → i = j) ∧ ∀ u, u < n → ∃ k, k < n ∧ At.getD k 0 = u := by
  have hl : At.length = n := by rw [hp.length_eq, List.length_range]
  have hnd : At.Nodup := hp.nodup_iff.2 List.nodup_range
  have hget : ∀ k, k < n → At.getD k 0 ∈ At := fun k hk => by rw [List.getD_eq_getElem?_getD, List.getElem?_eq_getElem (by omega)]; exact List.getElem_mem _
  refine ⟨hl, fun k hk => List.mem_range.1 (hp.mem_iff.1 (hget k hk)), fun i j hi hj e => ?_, fun u hu => ?_⟩
  · rw [List.getD_eq_getElem?_getD, List.getElem?_eq_getElem (by omega), List.getD_eq_getElem?_getD, List.getElem?_eq_getElem (by omega)] at e
    exact Blt.getElem?_inj hnd (List.getElem?_eq_getElem (by omega : i < At.length)) (by rw [List.getElem?_eq_getElem (by omega : j < At.length)]; exact congrArg some e.symm)
  · obtain ⟨k, hk⟩ := List.getElem?_of_mem (hp.mem_iff.2 (List.mem_range.2 hu))
    have := (List.getElem?_eq_some_iff.1 hk).1
    exact ⟨k, by omega, by rw [List.getD_eq_getElem?_getD, hk]; rfl⟩
theorem anyH (h : Solv E U J m) {At : List Nat} (hp : At.Perm (List.range E.length)) : ∃ mh, Matched (EH E.length) (UH E.length) (JH J At E.length) mh ∧ Has (EH E.length) (UH E.length) mh ∧
    blocksB (EH E.length).length (ndB (JH J At E.length) mh) = blocksB E.length (ndB J m) ∧
    (∀ e : Nat, e < E.length → 0 ≤ rd mh e ∧ rd mh e < E.length) ∧
    ∀ (b : Nat) bb, (blocksB E.length (ndB J m))[b]? = some bb → ∀ e ∈ bb, ∃ f ∈ bb, ((At.getD (rd mh e).toNat 0 : Nat) : Int) = rd m f := by
  obtain ⟨n, hn⟩ : ∃ n, n = E.length := ⟨_, rfl⟩
  have hF := h.full
  have hND := h.nd
  have hns := h.ns
  have hnu := h.has.1
  have hsm := h.small
  rw [← hn] at hF hND hns hp hsm ⊢
  obtain ⟨a1, a2, a3, a4⟩ := perm_at hp
  have hv := validH (J := J) (At := At) hsm
  obtain ⟨mh, hm, ho⟩ := hv.matched
  have hPerf : ∃ M, Perf (EH n).length (UH n).length (JH J At n) M := by
    have hk : ∀ e, ∃ k, e < n → k < n ∧ At.getD k 0 = Mof m e := fun e => by
      by_cases he : e < n
      · obtain ⟨k, h1, h2⟩ := a4 (Mof m e) (hF.lt e he)
        exact ⟨k, fun _ => ⟨h1, h2⟩⟩
      · exact ⟨0, fun h => absurd h he⟩
    obtain ⟨K, hK⟩ : ∃ K : Nat → Nat, ∀ e, e < n → K e < n ∧ At.getD (K e) 0 = Mof m e := ⟨fun e => Classical.choose (hk e), fun e he => Classical.choose_spec (hk e) he⟩
    refine ⟨K, fun e he => ?_, fun e f he hf hef => ?_⟩
    · rw [EH_len] at he
      obtain ⟨h1, h2⟩ := hK e he
      rw [UH_len, JH_get he]
      refine ⟨h1, ?_⟩
      have h3 := hF.at_ e he
      unfold Aof at h3
      have h4 : K e ∈ rowH J At n e := by
        rw [rowH, List.mem_filter, List.mem_range, decide_eq_true_eq, h2]
        exact ⟨h1, of_decide_eq_true h3⟩
      obtain ⟨j, hj, h5⟩ := mem_rd.1 (mem_ints'.2 h4)
      exact ⟨j, hj, h5⟩
    · rw [EH_len] at he hf
      have h1 := (hK e he).2
      rw [hef, (hK f hf).2] at h1
      exact (hF.inj f e hf he h1).symm
  have hnn := (match_full (N := EH n) (V := UH n) hv.gok rfl rfl (by rw [EH_len]; omega) hm ho).2 hPerf
  rw [EH_len] at hnn
  have hrow : ∀ e, e < n → rd mh e < n ∧ (rd mh e).toNat ∈ rowH J At n e ∧ ∀ i' : Nat, i' < e → rd mh i' ≠ rd mh e := fun e he => by
    have h0 := hnn e he
    rcases ho.row e (by rw [EH_len]; exact he) with h1 | ⟨⟨j, h1, h2⟩, h3⟩
    · omega
    · rw [JH_get he] at h1 h2
      have h4 : rd mh e ∈ ints (rowH J At n e) := mem_rd.2 ⟨j, h1, h2⟩
      have h5 : (rd mh e).toNat ∈ rowH J At n e := mem_ints'.1 (by rw [show (((rd mh (e : Int)).toNat : Nat) : Int) = rd mh e by omega]; exact h4)
      have := (rowH_lt h5).1
      exact ⟨by omega, h5, h3⟩
  have hinj : ∀ e f, e < n → f < n → rd mh e = rd mh f → e = f := fun e f he hf hef => by
    rcases Nat.lt_trichotomy e f with h1 | h1 | h1
    · exact absurd hef ((hrow f hf).2.2 e h1)
    · exact h1
    · exact absurd hef.symm ((hrow e he).2.2 f h1)
  obtain ⟨M', hM'⟩ : ∃ M' : Nat → Nat, M' = fun (e : Nat) => At.getD (rd mh (e : Int)).toNat 0 := ⟨_, rfl⟩
  have hF' : Full n (Aof J) M' := by
    refine ⟨fun e he => ?_, fun e he => ?_, fun e f he hf hef => ?_⟩
    · rw [hM']; exact a2 _ (by have := (hrow e he).1; have := hnn e he; omega)
    · rw [hM']; unfold Aof; rw [decide_eq_true_eq]; exact (rowH_lt (hrow e he).2.1).2
    · rw [hM'] at hef
      have h1 := hrow e he
      have h2 := hrow f hf
      have h3 := hnn e he
      have h4 := hnn f hf
      exact hinj e f he hf (by have := a3 _ _ (by omega) (by omega) hef; omega)
  have hNH : blocksB n (ndB (JH J At n) mh) = blocksB n (ndM (Aof J) M') := by
    refine blocks_congr fun e f he hf => ?_
    have h3 := hnn f hf
    have h4 := (hrow f hf).1
    unfold ndB ndM Aof
    rw [JH_get he, hM']
    have : decide (rd mh (f : Int) ∈ ints (rowH J At n e)) = decide (((At.getD (rd mh (f : Int)).toNat 0 : Nat) : Int) ∈ rd_L4 J (e : Int)) := by
      apply decide_eq_decide.2
      constructor
      · intro h5
        exact (rowH_lt (mem_ints'.1 (by rw [show (((rd mh (f : Int)).toNat : Nat) : Int) = rd mh f by omega]; exact h5))).2
      · intro h5
        have h6 : (rd mh (f : Int)).toNat ∈ rowH J At n e := by
          rw [rowH, List.mem_filter, List.mem_range, decide_eq_true_eq]; exact ⟨by omega, h5⟩
        have := mem_ints'.2 h6
        rwa [show (((rd mh (f : Int)).toNat : Nat) : Int) = rd mh f by omega] at this
    rw [this]
  refine ⟨mh, hm, ⟨by rw [EH_len, UH_len], fun hneg => ?_⟩, by rw [EH_len, hNH, hND]; exact blocks_any hF' hF, fun e he => ⟨hnn e he, (hrow e he).1⟩, fun b bb hb e he => ?_⟩
  · obtain ⟨j, hj, h1⟩ := mem_rd.1 hneg
    have := hnn j (by rw [ho.len, EH_len] at hj; exact hj)
    omega
  · rw [hND] at hb
    have hsp := Blt.blocksB_spec (n := n) (nd := ndM (Aof J) (Mof m))
    have hen := hsp.lt b bb hb e he
    obtain ⟨f, h1, h2, h3⟩ := partner hF' hF hen
    refine ⟨f, (hsp.same b bb hb e he f h1).2 ?_, ?_⟩
    · rcases h3 with h3 | ⟨h3, h4⟩
      · exact .inl h3.symm
      · exact .inr ⟨h3, h4⟩
    · have h5 := hns f h1
      unfold Mof at h2
      rw [hM'] at h2
      have h6 : (rd m (f : Int)).toNat = At.getD (rd mh (e : Int)).toNat 0 := h2
      omega
end
end Go.Proofs.Ytmfcefakpfbaoaa.PMatch
end
