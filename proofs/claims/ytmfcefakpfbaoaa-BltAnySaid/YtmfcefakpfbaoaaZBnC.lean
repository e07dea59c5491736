/- Lemmas for RowBltAny. -/
import Derived.Test.YtmfcefakpfbaoaaZBnB
import Derived.Test.YtmfcefakpfbaoaaQB
section
set_option linter.unusedVariables false
namespace Go.Proofs.Ytmfcefakpfbaoaa.PMatch
open Go.RowKit Go.Proofs.YtmfcefakpfbaoaaW.PrintWords Go.Proofs.YtmfcefakpfbaoaaW.PrintLast Go.Proofs.YtmfcefakpfbaoaaW.PrintMore
variable {E U : Nat} {N : List ByteArray} {V : List S47} {J : List (List Int)}
theorem rd_get {m : List Int} {u : Nat} (h : u < m.length) : rd m u = m[u] := by simp [rd, List.getD_eq_getElem?_getD, h]
theorem cnt_pos {m : List Int} {u f : Nat} (hu : u < m.length) (h : rd m u = f) : 0 < cnt m f := by
  unfold cnt
  rw [List.countP_pos_iff]
  exact ⟨m[u], List.getElem_mem _, by rw [← rd_get hu, h]; simp⟩
theorem cnt_ex {m : List Int} {f : Nat} (h : 0 < cnt m f) : ∃ u : Nat, u < m.length ∧ rd m u = f := by
  unfold cnt at h
  rw [List.countP_pos_iff] at h
  obtain ⟨x, hx, h2⟩ := h
  obtain ⟨u, hu, h3⟩ := List.mem_iff_getElem.1 hx
  exact ⟨u, hu, by rw [rd_get hu, h3]; simpa using h2⟩
theorem cnt_uniq {m : List Int} {f u v : Nat} (h : cnt m f ≤ 1) (hu : u < m.length) (hv : v < m.length) (h1 : rd m u = f) (h2 : rd m v = f) : u = v := by
  apply Classical.byContradiction
  intro hne
  have h3 := cnt_set (m := m) (u := u) (y := -1) (x := f) hu
  rw [if_pos h1, if_neg (by omega)] at h3
  have h4 := cnt_pos (m := m.set u (-1)) (u := v) (f := f) (by rw [List.length_set]; exact hv) (by rw [rd_set_other hne]; exact h2)
  omega
structure Perf (E U : Nat) (J : List (List Int)) (M : Nat → Nat) : Prop where
  row : ∀ e, e < E → M e < U ∧ ∃ j : Nat, j < (rd_L4 J e).length ∧ rd (rd_L4 J e) j = (M e : Int)
  inj : ∀ e f, e < E → f < E → M e = M f → e = f
def Ext (M : Nat → Nat) (o : List Int) : Prop := ∀ i : Nat, i < o.length → rd o i = (M i : Int)
structure Run (E U : Nat) (J : List (List Int)) (o : List Int) (y x : Nat) (m : List Int) (s : List Bool) : Prop where
  ok : Mok E U m
  sl : s.length = U
  pair : ∀ u f : Nat, u < U → rd m u = f → ∃ j : Nat, j < (rd_L4 J f).length ∧ rd (rd_L4 J f) j = u
  one : ∀ f : Nat, f < E → cnt m f = if f < x then 1 else 0
  fix : ∀ i u : Nat, i < y → rd o i = u → rd m u = i
  shut : ∀ u : Nat, u < U → (rdOf false s u = true ↔ ∃ i : Nat, i < y ∧ rd o i = u)
structure Fix (E U : Nat) (J : List (List Int)) (o : List Int) : Prop where
  out : Out J o.length o
  nn : ∀ i : Nat, i < o.length → 0 ≤ rd o i
  le : o.length ≤ E
theorem Fix.use (hg : Gok E U J) {o : List Int} (h : Fix E U J o) {i : Nat} (hi : i < o.length) : ∃ u j : Nat, rd o i = u ∧ u < U ∧ j < (rd_L4 J i).length ∧ rd (rd_L4 J i) j = u := by
  have h0 := h.nn i hi
  rcases h.out.row i hi with h1 | ⟨⟨j, h1, h2⟩, _⟩
  · omega
  · have h3 := hg.uses i (by have := h.le; omega) j h1
    exact ⟨(rd o i).toNat, j, by omega, by omega, h1, by omega⟩
theorem Fix.apart {o : List Int} (h : Fix E U J o) {i k : Nat} (hik : i < k) (hk : k < o.length) : rd o i ≠ rd o k := by
  have h0 := h.nn k hk
  rcases h.out.row k hk with h1 | ⟨_, h2⟩
  · omega
  · exact h2 i hik
theorem Run.le1 {o : List Int} {y x : Nat} {m : List Int} {s : List Bool} (h : Run E U J o y x m s) {f : Nat} (hf : f < E) : cnt m f ≤ 1 := by
  rw [h.one f hf]; split <;> omega
theorem fail_no (hg : Gok E U J) {o : List Int} {x : Nat} {m m' : List Int} {s s' : List Bool} (hx : x < E) (hox : o.length ≤ x) (hfx : Fix E U J o) (h : Run E U J o o.length x m s) (ht : TrySpec U J x 0 m s false m' s') : ¬ ∃ M, Perf E U J M ∧ Ext M o := by
  rintro ⟨M, hP, hE⟩
  obtain ⟨_, t1, t2⟩ := ht.lose rfl
  have hml := h.ok.1
  have hS : ∀ u : Nat, u ∈ (List.range U).filter (fun (u : Nat) => rdOf false s' (u : Int) && !rdOf false s (u : Int)) ↔ u < U ∧ rdOf false s' u = true ∧ rdOf false s u = false := fun u => by
    rw [List.mem_filter, List.mem_range]; simp
  obtain ⟨S, hSS⟩ : ∃ S, S = (List.range U).filter (fun (u : Nat) => rdOf false s' (u : Int) && !rdOf false s (u : Int)) := ⟨_, rfl⟩
  have hSn : S.Nodup := by rw [hSS]; exact List.nodup_range.filter _
  rw [← hSS] at hS
  -- what is known of an equation whose use is in S
  have key : ∀ u : Nat, u ∈ S → ∃ f : Nat, rd m u = f ∧ f < E ∧ f ≠ x ∧ o.length ≤ f ∧ ∀ j w : Nat, j < (rd_L4 J f).length → rd (rd_L4 J f) j = w → rdOf false s' w = true := fun u hu => by
    obtain ⟨h1, h2, h3⟩ := (hS u).1 hu
    obtain ⟨h4, h5⟩ := t2 u h1 h2 h3
    have h6 := h.ok.2 u h1
    refine ⟨(rd m u).toNat, by omega, by omega, fun e => ?_, ?_, fun j w hj hw => h5 _ j w (by omega) hj hw⟩
    · have h7 := cnt_pos (m := m) (u := u) (f := x) (by omega) (by omega)
      rw [h.one x hx, if_neg (Nat.lt_irrefl x)] at h7
      omega
    · apply Classical.byContradiction
      intro hlt
      have hlt' : (rd m u).toNat < o.length := by omega
      obtain ⟨v, j, hv, hvU, _, _⟩ := hfx.use hg hlt'
      have h7 := h.fix _ v hlt' hv
      have h8 := cnt_uniq (m := m) (f := (rd m u).toNat) (u := u) (v := v) (h.le1 (by omega)) (by omega) (by omega) (by omega) h7
      subst h8
      have := (h.shut u h1).2 ⟨_, hlt', hv⟩
      rw [this] at h3; cases h3
  have hin : ∀ t : Nat, t < E → o.length ≤ t → (∀ j w : Nat, j < (rd_L4 J t).length → rd (rd_L4 J t) j = w → rdOf false s' w = true) → M t ∈ S := fun t ht1 ht2 ht3 => by
    obtain ⟨h1, j, h2, h3⟩ := hP.row t ht1
    refine (hS _).2 ⟨h1, ht3 j (M t) h2 h3, ?_⟩
    cases h4 : rdOf false s (M t : Int)
    · rfl
    · obtain ⟨i, h5, h6⟩ := (h.shut _ h1).1 h4
      have h7 := hE i h5
      have : i = t := hP.inj i t (by have := hfx.le; omega) ht1 (by omega)
      omega
  have hL := Blt.len_le (M x :: S.map fun (u : Nat) => M (rd m (u : Int)).toNat) S (by
    rw [List.nodup_cons]
    refine ⟨fun hm => ?_, ?_⟩
    · obtain ⟨u, hu, h1⟩ := List.mem_map.1 hm
      obtain ⟨f, h2, h3, h4, _⟩ := key u hu
      rw [h2, Int.toNat_natCast] at h1
      exact h4 (hP.inj f x h3 hx h1)
    · rw [List.Nodup, List.pairwise_map]
      refine hSn.imp_of_mem (fun {u v} hu hv huv e => huv ?_)
      obtain ⟨f, h2, h3, _⟩ := key u hu
      obtain ⟨f', h2', h3', _⟩ := key v hv
      rw [h2, h2', Int.toNat_natCast, Int.toNat_natCast] at e
      have := hP.inj f f' h3 h3' e
      subst this
      exact cnt_uniq (h.le1 h3) (by have := ((hS u).1 hu).1; omega) (by have := ((hS v).1 hv).1; omega) h2 h2') (fun w hw => by
    rcases List.mem_cons.1 hw with rfl | hw
    · exact hin x hx hox fun j w hj hw => t1 j w (Nat.zero_le _) hj hw
    · obtain ⟨u, hu, rfl⟩ := List.mem_map.1 hw
      obtain ⟨f, h2, h3, _, h5, h6⟩ := key u hu
      rw [h2, Int.toNat_natCast]
      exact hin f h3 h5 h6)
  rw [List.length_cons, List.length_map] at hL
  omega
theorem Run.all {o : List Int} {m : List Int} {s : List Bool} (hg : Gok E U J) (hfx : Fix E U J o) (h : Run E U J o o.length E m s) : ∃ M, Perf E U J M ∧ Ext M o := by
  have hml := h.ok.1
  have hex : ∀ e : Nat, ∃ u : Nat, e < E → u < U ∧ rd m u = e := fun e => by
    by_cases he : e < E
    · obtain ⟨u, h1, h2⟩ := cnt_ex (m := m) (f := e) (by rw [h.one e he, if_pos he]; decide)
      exact ⟨u, fun _ => ⟨by omega, h2⟩⟩
    · exact ⟨0, fun h => absurd h he⟩
  obtain ⟨M, hM⟩ : ∃ M : Nat → Nat, ∀ e : Nat, e < E → M e < U ∧ rd m (M e : Int) = e := ⟨fun e => Classical.choose (hex e), fun e he => Classical.choose_spec (hex e) he⟩
  refine ⟨M, ⟨fun e he => ?_, fun e f he hf hef => ?_⟩, fun i hi => ?_⟩
  · obtain ⟨h1, h2⟩ := hM e he
    exact ⟨h1, h.pair _ e h1 h2⟩
  · obtain ⟨h1, h2⟩ := hM e he
    obtain ⟨h3, h4⟩ := hM f hf
    rw [hef, h4] at h2
    omega
  · have hiE : i < E := by have := hfx.le; omega
    obtain ⟨h1, h2⟩ := hM i hiE
    obtain ⟨u, j, h3, h4, _, _⟩ := hfx.use hg hi
    have h5 := cnt_uniq (h.le1 hiE) (by omega) (by omega) h2 (h.fix i u hi h3)
    rw [h5]; exact h3
theorem l1_bound (hg : Gok E U J) (hN : N.length = E) (hE : E ≤ 1000000) : ∀ (c x : Nat) (m : List Int) (s : List Bool) (n : Nat), x + c = E → Mok E U m → s.length = U → n + c ≤ 1000000 →
    ∃ k0 m' n', (∀ k, k0 ≤ k → match_greatest.l1 k m s (n : Int) (x : Int) N V J = some (m', ((n' : Nat) : Int))) ∧ n' ≤ n + c := by
  intro c
  induction c with
  | zero =>
    intro x m s n hx hm hs hn
    refine ⟨1, m, n, fun k hk => ?_, Nat.le_refl _⟩
    obtain ⟨k, rfl⟩ : ∃ j, k = j + 1 := ⟨k - 1, by omega⟩
    simp only [match_greatest.l1]
    rw [if_neg (by omega)]
  | succ c ih =>
    intro x m s n hx hm hs hn
    obtain ⟨k0, r, m', s', h1, h2, _, _⟩ := try_ok (N := N) (V := V) hg (cf s + 1) m s x hm hs (by omega) (by omega)
    have HW := Lib.hid (wr_ (x : Int) (by omega) (by omega))
    have HWn := Lib.hid (wr_ (n : Int) (by omega) (by omega))
    have HC := Lib.hid (clone_b (s := s) (by have := hg.small; omega))
    have unf : ∀ k, k0 ≤ k → match_greatest.l1 (k + 1) m s n (x : Int) N V J = if r = true then match_greatest.l1 k m' s ((n + 1 : Nat) : Int) ((x + 1 : Nat) : Int) N V J else match_greatest.l1 k m' s n ((x + 1 : Nat) : Int) N V J := by
      intro k hk
      simp only [match_greatest.l1]
      rw [if_pos (by omega), HC.out]
      simp only [Option.bind_some]
      rw [h1 k hk, HW.out, HWn.out, Int.natCast_add, Int.natCast_add]
      rfl
    cases r with
    | true =>
      obtain ⟨k1, m2, n2, g, g2⟩ := ih (x + 1) m' s (n + 1) (by omega) h2 hs (by omega)
      refine ⟨k0 + k1 + 1, m2, n2, fun k hk => ?_, by omega⟩
      obtain ⟨k, rfl⟩ : ∃ j, k = j + 1 := ⟨k - 1, by omega⟩
      rw [unf k (by omega), if_pos rfl]
      exact g k (by omega)
    | false =>
      obtain ⟨k1, m2, n2, g, g2⟩ := ih (x + 1) m' s n (by omega) h2 hs (by omega)
      refine ⟨k0 + k1 + 1, m2, n2, fun k hk => ?_, by omega⟩
      obtain ⟨k, rfl⟩ : ∃ j, k = j + 1 := ⟨k - 1, by omega⟩
      rw [unf k (by omega), if_neg (by simp)]
      exact g k (by omega)
theorem l1_spec (hg : Gok E U J) (hN : N.length = E) (hE : E ≤ 400000) {o : List Int} (hfx : Fix E U J o) : ∀ (c x : Nat) (m : List Int) (s : List Bool) (n : Nat), x + c = E → o.length ≤ x → Run E U J o o.length x m s → n + c ≤ 1000000 →
    ∃ k0 m' n', (∀ k, k0 ≤ k → match_greatest.l1 k m s (n : Int) (x : Int) N V J = some (m', ((n' : Nat) : Int))) ∧ n' ≤ n + c ∧ (n' = n + c ↔ ∃ M, Perf E U J M ∧ Ext M o) := by
  intro c
  induction c with
  | zero =>
    intro x m s n hx hox hr hn
    have hxE : x = E := by omega
    refine ⟨1, m, n, fun k hk => ?_, Nat.le_refl _, fun _ => ?_, fun _ => rfl⟩
    · obtain ⟨k, rfl⟩ : ∃ j, k = j + 1 := ⟨k - 1, by omega⟩
      simp only [match_greatest.l1]
      rw [if_neg (by omega)]
    · subst hxE; exact hr.all hg hfx
  | succ c ih =>
    intro x m s n hx hox hr hn
    have hm := hr.ok
    have hs := hr.sl
    obtain ⟨k0, r, m', s', h1, h2, h3, h4, h5⟩ := try_ok2 (N := N) (V := V) hg (cf s + 1) m s x hm hs (by omega) (by omega)
    have HW := Lib.hid (wr_ (x : Int) (by omega) (by omega))
    have HWn := Lib.hid (wr_ (n : Int) (by omega) (by omega))
    have HC := Lib.hid (clone_b (s := s) (by have := hg.small; omega))
    have unf : ∀ k, k0 ≤ k → match_greatest.l1 (k + 1) m s n (x : Int) N V J = if r = true then match_greatest.l1 k m' s ((n + 1 : Nat) : Int) ((x + 1 : Nat) : Int) N V J else match_greatest.l1 k m' s n ((x + 1 : Nat) : Int) N V J := by
      intro k hk
      simp only [match_greatest.l1]
      rw [if_pos (by omega), HC.out]
      simp only [Option.bind_some]
      rw [h1 k hk, HW.out, HWn.out, Int.natCast_add, Int.natCast_add]
      rfl
    cases r with
    | true =>
      obtain ⟨w1, w2⟩ := h5.win rfl
      have hr' : Run E U J o o.length (x + 1) m' s := by
        refine ⟨h2, hs, fun u f hu hf => ?_, fun f hf => ?_, fun i u hi hu => ?_, hr.shut⟩
        · rcases w1 u hu with h6 | ⟨f', j, h6, h7, h8⟩
          · exact hr.pair u f hu (by omega)
          · have : f = f' := by omega
            subst this
            exact ⟨j, h7, h8⟩
        · rw [w2 f, hr.one f hf]
          by_cases e1 : f = x
          · rw [if_neg (by omega), if_pos e1, if_pos (by omega)]
          · by_cases e2 : f < x
            · rw [if_pos e2, if_neg e1, if_pos (by omega)]
            · rw [if_neg e2, if_neg e1, if_neg (by omega)]
        · obtain ⟨v, _, h6, h7, _⟩ := hfx.use hg hi
          have : u = v := by omega
          subst this
          rw [h5.keep u h7 ((hr.shut u h7).2 ⟨i, hi, hu⟩)]
          exact hr.fix i u hi hu
      obtain ⟨k1, m2, n2, g, g2, g3⟩ := ih (x + 1) m' s (n + 1) (by omega) (by omega) hr' (by omega)
      refine ⟨k0 + k1 + 1, m2, n2, fun k hk => ?_, by omega, by rw [← g3]; omega⟩
      obtain ⟨k, rfl⟩ : ∃ j, k = j + 1 := ⟨k - 1, by omega⟩
      rw [unf k (by omega), if_pos rfl]
      exact g k (by omega)
    | false =>
      have hno := fail_no hg (by omega) hox hfx hr h5
      obtain ⟨k1, m2, n2, g, g2⟩ := l1_bound (N := N) (V := V) hg hN (by omega) c (x + 1) m' s n (by omega) h2 hs (by omega)
      refine ⟨k0 + k1 + 1, m2, n2, fun k hk => ?_, by omega, fun h => by omega, fun h => absurd h hno⟩
      obtain ⟨k, rfl⟩ : ∃ j, k = j + 1 := ⟨k - 1, by omega⟩
      rw [unf k (by omega), if_neg (by simp)]
      exact g k (by omega)
theorem l0_spec (hg : Gok E U J) (hN : N.length = E) (hE : E ≤ 400000) {o : List Int} (hfx : Fix E U J o) : ∀ (c x : Nat) (m : List Int) (s : List Bool), x + c = o.length → Run E U J o x x m s →
    ∃ k0 m' n', (∀ k, k0 ≤ k → match_greatest.l0 k o m s (x : Int) o (o.length : Int) (x : Int) N V J = some (m', ((n' : Nat) : Int))) ∧ (n' = E ↔ ∃ M, Perf E U J M ∧ Ext M o) := by
  have hoE := hfx.le
  intro c
  induction c with
  | zero =>
    intro x m s hx hr
    have hxo : x = o.length := by omega
    subst hxo
    obtain ⟨k0, m', n', h, h2, h3⟩ := l1_spec (N := N) (V := V) hg hN hE hfx (E - o.length) o.length m s o.length (by omega) (Nat.le_refl _) hr (by omega)
    refine ⟨k0 + 1, m', n', fun k hk => ?_, by rw [← h3]; omega⟩
    obtain ⟨k, rfl⟩ : ∃ j, k = j + 1 := ⟨k - 1, by omega⟩
    simp only [match_greatest.l0]
    rw [if_neg (by omega)]
    exact h k (by omega)
  | succ c ih =>
    intro x m s hx hr
    obtain ⟨u, j, hu, huU, hj, hju⟩ := hfx.use hg (i := x) (by omega)
    have HW := Lib.hid (wr_ (x : Int) (by omega) (by omega))
    have hmU := hr.ok.1
    have hsU := hr.sl
    have hneg : rd m u < 0 := by
      apply Classical.byContradiction
      intro h0
      obtain ⟨f, hf⟩ : ∃ f : Nat, rd m u = f := ⟨(rd m u).toNat, by omega⟩
      have hfE : f < E := by have := hr.ok.2 u huU; omega
      have h1 := cnt_pos (by omega) hf
      rw [hr.one f hfE] at h1
      have hfx' : f < x := by
        apply Classical.byContradiction
        intro h2; rw [if_neg h2] at h1; omega
      obtain ⟨v, _, h2, h3, _⟩ := hfx.use hg (i := f) (by omega)
      have h4 := hr.fix f v hfx' h2
      have h5 := cnt_uniq (hr.le1 hfE) (by omega) (by omega) hf h4
      subst h5
      exact hfx.apart hfx' (by omega) (h2.trans hu.symm)
    have hr' : Run E U J o (x + 1) (x + 1) (m.set u x) (s.set u true) := by
      refine ⟨hr.ok.set huU (by omega), by rw [List.length_set]; exact hsU, fun v f hv hf => ?_, fun f hf => ?_, fun i v hi hv => ?_, fun v hv => ?_⟩
      · by_cases e1 : u = v
        · subst e1
          rw [rd_set_same (by omega)] at hf
          have : f = x := by omega
          subst this
          exact ⟨j, hj, hju⟩
        · rw [rd_set_other e1] at hf
          exact hr.pair v f hv hf
      · have h1 := cnt_set (m := m) (u := u) (y := (x : Int)) (x := f) (by omega)
        rw [if_neg (by omega), hr.one f hf] at h1
        by_cases e1 : f = x
        · rw [if_pos (by omega)]
          rw [if_neg (by omega), if_pos (by omega)] at h1
          omega
        · rw [if_neg (show ¬ (x : Int) = (f : Int) by omega)] at h1
          by_cases e2 : f < x
          · rw [if_pos e2] at h1; rw [if_pos (by omega)]; omega
          · rw [if_neg e2] at h1; rw [if_neg (by omega)]; omega
      · by_cases e1 : i = x
        · subst e1
          have : v = u := by omega
          subst this
          exact rd_set_same (by omega)
        · have hne : u ≠ v := fun e2 => by
            subst e2
            exact hfx.apart (i := i) (k := x) (by omega) (by omega) (hv.trans hu.symm)
          rw [rd_set_other hne]
          exact hr.fix i v (by omega) hv
      · by_cases e1 : u = v
        · subst e1
          rw [seen_same (by omega)]
          exact ⟨fun _ => ⟨x, by omega, hu⟩, fun _ => rfl⟩
        · rw [seen_other e1, hr.shut v hv]
          constructor
          · rintro ⟨i, h1, h2⟩; exact ⟨i, by omega, h2⟩
          · rintro ⟨i, h1, h2⟩
            refine ⟨i, ?_, h2⟩
            rcases Nat.lt_or_ge i x with h3 | h3
            · exact h3
            · have : i = x := by omega
              subst this
              omega
    obtain ⟨k0, m', n', h, h2⟩ := ih (x + 1) (m.set u x) (s.set u true) (by omega) hr'
    refine ⟨k0 + 1, m', n', fun k hk => ?_, h2⟩
    obtain ⟨k, rfl⟩ : ∃ j, k = j + 1 := ⟨k - 1, by omega⟩
    simp only [match_greatest.l0]
    rw [if_pos (by omega), if_pos (by omega), if_pos (by omega), hu, if_pos (by omega), if_pos (by omega), if_pos (by omega), if_pos (by omega), HW.out, Int.toNat_natCast]
    have := h k (by omega)
    rw [Int.natCast_add] at this
    exact this
theorem greatest_spec (hg : Gok E U J) (hN : N.length = E) (hV : V.length = U) (hE : E ≤ 400000) {o : List Int} (hfx : Fix E U J o) : ∃ k0 m n, (∀ k, k0 ≤ k → match_greatest.f k N V J o = some (m, ((n : Nat) : Int))) ∧ (n = E ↔ ∃ M, Perf E U J M ∧ Ext M o) := by
  have hU := hg.small
  have hrep : ∀ u : Nat, u < U → rd (List.replicate U (-1)) u = -1 := fun u hu => by simp [rd, List.getD_eq_getElem?_getD, hu]
  have hr0 : Run E U J o 0 0 (List.replicate U (-1)) (List.replicate U false) := by
    refine ⟨⟨List.length_replicate .., fun u hu => by rw [hrep u hu]; omega⟩, by simp, fun u f hu hf => by rw [hrep u hu] at hf; omega, fun f hf => ?_, fun i u hi => by omega, fun u hu => ?_⟩
    · rw [if_neg (by omega)]
      unfold cnt
      rw [List.countP_eq_zero]
      intro a ha
      rw [List.mem_replicate] at ha
      rw [ha.2]; simp
    · constructor
      · intro h; simp [rdOf, List.getD_eq_getElem?_getD, hu] at h
      · rintro ⟨i, hi, _⟩; omega
  obtain ⟨k0, m, n, h, h2⟩ := l0_spec (N := N) (V := V) hg hN hE hfx o.length 0 _ (List.replicate U false) (by omega) hr0
  refine ⟨k0, m, n, fun k hk => ?_, h2⟩
  unfold match_greatest.f
  have hr : slices_Repeat_int_int.f [-1] (V.length : Int) = some (List.replicate U (-1)) := by
    unfold slices_Repeat_int_int.f
    rw [if_pos ⟨rfl, by omega, by omega⟩, hV, Int.toNat_natCast]; rfl
  rw [hr]
  simp only [Option.bind_some]
  rw [if_pos (by omega), Int.toNat_natCast, if_pos (Nat.le_trans (show V.length ≤ 1000000 by omega) (by decide)), hV]
  exact h k hk
theorem Fix.snoc {e : Nat} {o : List Int} {x : Int} (he : e < E) (hoe : o.length = e) (h : Fix E U J o) (hx : ∃ j : Nat, j < (rd_L4 J e).length ∧ rd (rd_L4 J e) j = x) (hx0 : 0 ≤ x) (hn : ∀ i' : Nat, i' < e → rd o i' ≠ x) : Fix E U J (o ++ [x]) := by
  subst hoe
  refine ⟨by rw [List.length_append]; exact h.out.snoc (.inr ⟨hx, hn⟩), fun i hi => ?_, by simp; omega⟩
  by_cases e1 : i < o.length
  · rw [rd_app_left e1]; exact h.nn i e1
  · have : i = o.length := by simp at hi; omega
    subst this
    rw [rd_app_right]; exact hx0
theorem m_l1 (hg : Gok E U J) (hN : N.length = E) (hV : V.length = U) (hE : E ≤ 400000) (e : Nat) (he : e < E) (o : List Int) (hol : o.length = e) (ho : Fix E U J o)
    (ih : ∀ o' : List Int, o'.length = e + 1 → Fix E U J o' → (∃ M, Perf E U J M ∧ Ext M o') → ∃ k0 r, (∀ k, k0 ≤ k → match_match.l0 k (E : Int) o' (E : Int) ((e + 1 : Nat) : Int) N V J = some r) ∧ r.length = E ∧ Fix E U J r) :
    ∀ (c i : Nat), i + c = (rd_L4 J e).length → (∃ j : Nat, i ≤ j ∧ j < (rd_L4 J e).length ∧ ∃ M, Perf E U J M ∧ Ext M (o ++ [rd (rd_L4 J e) j])) →
      ∃ k0 r, (∀ k, k0 ≤ k → match_match.l1 k (E : Int) o (-1) (E : Int) (e : Int) (rd_L4 J e) ((rd_L4 J e).length : Int) (i : Int) N V J = some r) ∧ r.length = E ∧ Fix E U J r := by
  have HWe := Lib.hid (wr_ (e : Int) (by omega) (by omega))
  intro c
  induction c with
  | zero => intro i hi ⟨j, h1, h2, _⟩; omega
  | succ c ihc =>
    intro i hi hex
    have hlen := hg.rows e he
    have HW := Lib.hid (wr_ (i : Int) (by omega) (by omega))
    obtain ⟨kc, b, hc, hb⟩ := contains_ok (l := o) (by omega) (rd (rd_L4 J e) i)
    obtain ⟨hu0, hu1⟩ := hg.uses e he i (by omega)
    have hnext : (¬ ∃ M, Perf E U J M ∧ Ext M (o ++ [rd (rd_L4 J e) i])) → ∃ j : Nat, i + 1 ≤ j ∧ j < (rd_L4 J e).length ∧ ∃ M, Perf E U J M ∧ Ext M (o ++ [rd (rd_L4 J e) j]) := fun hno => by
      obtain ⟨j, h1, h2, h3⟩ := hex
      refine ⟨j, ?_, h2, h3⟩
      by_cases e1 : j = i
      · subst e1; exact absurd h3 hno
      · omega
    cases b with
    | true =>
      obtain ⟨i', hi', hi2⟩ := hb.1 rfl
      obtain ⟨kn, rn, hn1, hn2⟩ := ihc (i + 1) (by omega) (hnext fun ⟨M, hM, hX⟩ => by
        have h1 := hX i' (by simp; omega)
        have h2 := hX o.length (by simp)
        rw [rd_app_left hi', hi2] at h1
        rw [rd_app_right] at h2
        have := hM.inj i' o.length (by omega) (by omega) (by omega)
        omega)
      have hn3 : ∀ k, kn ≤ k → match_match.l1 k (E : Int) o (-1) (E : Int) (e : Int) (rd_L4 J e) ((rd_L4 J e).length : Int) ((i : Int) + 1) N V J = some rn := fun k hk => by
        have := hn1 k hk
        rwa [Int.natCast_add] at this
      refine ⟨kc + kn + 1, rn, fun k hk => ?_, hn2⟩
      obtain ⟨k, rfl⟩ : ∃ j, k = j + 1 := ⟨k - 1, by omega⟩
      simp only [match_match.l1]
      rw [if_pos (by omega), if_pos (by omega), if_pos (by omega), hc k (by omega)]
      simp only [Option.bind_some, if_true]
      rw [HW.out]
      exact hn3 k (by omega)
    | false =>
      have hnot : ∀ i' : Nat, i' < e → rd o i' ≠ rd (rd_L4 J e) i := fun i' hi' h => by
        have := hb.2 ⟨i', by omega, h⟩
        cases this
      have hsn := ho.snoc (x := rd (rd_L4 J e) i) he hol ⟨i, by omega, rfl⟩ hu0 hnot
      obtain ⟨kg, m, n, hgr, hn⟩ := greatest_spec (N := N) (V := V) hg hN hV hE hsn
      have HCL := Lib.hid (clone_i (s := o) (by omega))
      have unf : ∀ k, kc + kg ≤ k → match_match.l1 (k + 1) (E : Int) o (-1) (E : Int) (e : Int) (rd_L4 J e) ((rd_L4 J e).length : Int) (i : Int) N V J =
          if (n : Int) = (E : Int) then match_match.l0 k (E : Int) (o ++ [rd (rd_L4 J e) i]) (E : Int) ((e + 1 : Nat) : Int) N V J else match_match.l1 k (E : Int) o (-1) (E : Int) (e : Int) (rd_L4 J e) ((rd_L4 J e).length : Int) ((i : Int) + 1) N V J := by
        intro k hk
        simp only [match_match.l1]
        rw [if_pos (by omega), if_pos (by omega), if_pos (by omega), hc k (by omega)]
        simp only [Option.bind_some]
        rw [if_neg (by simp), HCL.out]
        simp only [Option.bind_some]
        rw [if_pos (by simp; omega), hgr k (by omega)]
        simp only [Option.bind_some]
        by_cases hm : (n : Int) = (E : Int)
        · rw [if_pos hm, if_pos hm, if_pos (by simp; omega), HWe.out, Int.natCast_add]; rfl
        · rw [if_neg hm, if_neg hm, HW.out]
      by_cases hmost : (n : Int) = (E : Int)
      · obtain ⟨k0, r, h1, h2⟩ := ih _ (by simp; omega) hsn (hn.1 (by omega))
        refine ⟨kc + kg + k0 + 1, r, fun k hk => ?_, h2⟩
        obtain ⟨k, rfl⟩ : ∃ j, k = j + 1 := ⟨k - 1, by omega⟩
        rw [unf k (by omega), if_pos hmost]
        exact h1 k (by omega)
      · obtain ⟨kn, rn, hn1, hn2⟩ := ihc (i + 1) (by omega) (hnext fun h => hmost (by rw [hn.2 h]))
        have hn3 : ∀ k, kn ≤ k → match_match.l1 k (E : Int) o (-1) (E : Int) (e : Int) (rd_L4 J e) ((rd_L4 J e).length : Int) ((i : Int) + 1) N V J = some rn := fun k hk => by
          have := hn1 k hk
          rwa [Int.natCast_add] at this
        refine ⟨kc + kg + kn + 1, rn, fun k hk => ?_, hn2⟩
        obtain ⟨k, rfl⟩ : ∃ j, k = j + 1 := ⟨k - 1, by omega⟩
        rw [unf k (by omega), if_neg hmost]
        exact hn3 k (by omega)
theorem m_l0 (hg : Gok E U J) (hN : N.length = E) (hV : V.length = U) (hE : E ≤ 400000) : ∀ (c e : Nat) (o : List Int), e + c = E → o.length = e → Fix E U J o → (∃ M, Perf E U J M ∧ Ext M o) →
    ∃ k0 r, (∀ k, k0 ≤ k → match_match.l0 k (E : Int) o (E : Int) (e : Int) N V J = some r) ∧ r.length = E ∧ Fix E U J r := by
  intro c
  induction c with
  | zero =>
    intro e o he hol ho _
    refine ⟨1, o, fun k hk => ?_, by omega, ho⟩
    obtain ⟨k, rfl⟩ : ∃ j, k = j + 1 := ⟨k - 1, by omega⟩
    simp only [match_match.l0]
    rw [if_neg (by omega)]
  | succ c ih =>
    intro e o he hol ho ⟨M, hM, hX⟩
    obtain ⟨_, j, hj, hjM⟩ := hM.row e (by omega)
    obtain ⟨k0, r, h1, h2⟩ := m_l1 (N := N) (V := V) hg hN hV hE e (by omega) o hol ho (fun o' hl ho' hx => ih (e + 1) o' (by omega) hl ho' hx) (rd_L4 J e).length 0 (by omega) ⟨j, Nat.zero_le _, hj, M, hM, fun i hi => by
      by_cases e1 : i < o.length
      · rw [rd_app_left e1]; exact hX i e1
      · have : i = o.length := by simp at hi; omega
        subst this
        rw [rd_app_right, hol]; exact hjM⟩
    refine ⟨k0 + 1, r, fun k hk => ?_, h2⟩
    obtain ⟨k, rfl⟩ : ∃ j, k = j + 1 := ⟨k - 1, by omega⟩
    simp only [match_match.l0]
    rw [if_pos (by omega), if_pos (by omega), if_pos (by rw [hg.len]; omega)]
    exact h1 k (by omega)
theorem Fix.nil : Fix E U J [] := ⟨⟨rfl, fun i hi => absurd hi (Nat.not_lt_zero _)⟩, fun i hi => absurd hi (Nat.not_lt_zero _), Nat.zero_le _⟩
theorem Ext.nil {M : Nat → Nat} : Ext M [] := fun i hi => absurd hi (Nat.not_lt_zero _)
theorem rank_spec (hg : Gok E U J) (hN : N.length = E) (hV : V.length = U) (hE : E ≤ 400000) : ∃ k0 m n, (∀ k, k0 ≤ k → match_greatest.f k N V J [] = some (m, ((n : Nat) : Int))) ∧ (n = E ↔ ∃ M, Perf E U J M) := by
  obtain ⟨k0, m, n, h, h2⟩ := greatest_spec (N := N) (V := V) hg hN hV hE Fix.nil
  exact ⟨k0, m, n, h, h2.trans ⟨fun ⟨M, h, _⟩ => ⟨M, h⟩, fun ⟨M, h⟩ => ⟨M, h, Ext.nil⟩⟩⟩
theorem match_full (hg : Gok E U J) (hN : N.length = E) (hV : V.length = U) (hE : E ≤ 400000) {m : List Int} (hm : ∃ k0, ∀ k, k0 ≤ k → match_match.f k N V J = some m) (ho : Out J E m) : (∀ e : Nat, e < E → 0 ≤ rd m e) ↔ ∃ M, Perf E U J M := by
  constructor
  · intro h0
    refine ⟨fun e => (rd m e).toNat, fun e he => ?_, fun e f he hf hef => ?_⟩
    · rcases ho.row e he with h1 | ⟨⟨j, h1, h2⟩, _⟩
      · have := h0 e he; omega
      · have h3 := hg.uses e he j h1
        have := h0 e he
        exact ⟨by omega, j, h1, by omega⟩
    · have hef : (rd m (e : Int)).toNat = (rd m (f : Int)).toNat := hef
      have h1 := h0 e he
      have h2 := h0 f hf
      have key : ∀ a b : Nat, a < b → b < E → rd m a ≠ rd m b := fun a b hab hb => by
        rcases ho.row b hb with h3 | ⟨_, h3⟩
        · have := h0 b hb; omega
        · exact h3 a hab
      rcases Nat.lt_trichotomy e f with h3 | h3 | h3
      · exact absurd (by omega) (key e f h3 hf)
      · exact h3
      · exact absurd (by omega) (key f e h3 he)
  · rintro ⟨M, hM⟩
    obtain ⟨kg, mg, n, hgr, hn⟩ := rank_spec (N := N) (V := V) hg hN hV hE
    have hnE := hn.2 ⟨M, hM⟩
    subst hnE
    obtain ⟨k0, r, h1, h2, h3⟩ := m_l0 (N := N) (V := V) hg hN hV hE n 0 [] (by omega) rfl Fix.nil ⟨M, hM, Ext.nil⟩
    obtain ⟨k1, hm⟩ := hm
    have h4 := hm (kg + k0 + k1) (by omega)
    unfold match_match.f at h4
    rw [hgr _ (by omega)] at h4
    simp only [Option.bind_some] at h4
    rw [if_pos (by omega), Int.toNat_natCast, if_pos (Nat.le_trans (show N.length ≤ 1000000 by omega) (by decide)), hN, show List.replicate 0 (0 : Int) = [] from rfl, show (0 : Int) = ((0 : Nat) : Int) from rfl, h1 _ (by omega)] at h4
    obtain rfl := Option.some.inj h4
    intro e he
    exact h3.nn e (by omega)
end Go.Proofs.Ytmfcefakpfbaoaa.PMatch
end
