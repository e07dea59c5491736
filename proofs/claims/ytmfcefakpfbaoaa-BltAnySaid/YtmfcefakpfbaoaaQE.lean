/- Lemmas for RowBltAny. -/
import Derived.Test.YtmfcefakpfbaoaaZPMatchx5
import Derived.Lib.Hide
import Derived.Test.YtmfcefakpfbaoaaZPMatchx6
section
set_option linter.unusedVariables false
namespace Go.Proofs.Ytmfcefakpfbaoaa.PMatch
open Go.RowKit Go.Proofs.YtmfcefakpfbaoaaW.PrintWords Go.Proofs.YtmfcefakpfbaoaaW.PrintLast Go.Proofs.YtmfcefakpfbaoaaW.PrintMore
theorem wr_ (i : Int) (h0 : 0 ≤ i) (h1 : i ≤ 1000000000) : wrap64 (i + 1) = i + 1 := by unfold wrap64; omega
def cf (s : List Bool) : Nat := s.countP (fun b => !b)
theorem cf_set {s : List Bool} {u : Nat} (hu : u < s.length) (h : rdOf false s (u : Int) = false) : cf (s.set u true) + 1 = cf s := by
  unfold cf
  have h1 : s[u] = false := by simpa [rdOf, List.getD_eq_getElem?_getD, hu] using h
  have h2 : s.countP (fun b => !b) = (s.take u ++ s[u] :: s.drop (u + 1)).countP (fun b => !b) := by
    congr 1
    rw [List.getElem_cons_drop, List.take_append_drop]
  have h3 : s.set u true = s.take u ++ true :: s.drop (u + 1) := List.set_eq_take_append_cons_drop.trans (if_pos hu)
  rw [h2, h3, h1, List.countP_append, List.countP_append, List.countP_cons, List.countP_cons]
  simp
  omega
structure Gok (E U : Nat) (J : List (List Int)) : Prop where
  len : J.length = E
  small : U ≤ 1000000
  rows : ∀ e : Nat, e < E → (rd_L4 J e).length ≤ 1000000
  uses : ∀ e : Nat, e < E → ∀ i : Nat, i < (rd_L4 J e).length → 0 ≤ rd (rd_L4 J e) i ∧ rd (rd_L4 J e) i < (U : Int)
def Mok (E U : Nat) (m : List Int) : Prop := m.length = U ∧ ∀ u : Nat, u < U → rd m u < (E : Int)
theorem rd_set_same {m : List Int} {u : Nat} {x : Int} (h : u < m.length) : rd (m.set u x) u = x := by simp [rd, List.getD_eq_getElem?_getD, h]
theorem rd_set_other {m : List Int} {u v : Nat} {x : Int} (h : u ≠ v) : rd (m.set u x) v = rd m v := by
  simp [rd, List.getD_eq_getElem?_getD, List.getElem?_set_ne h]
theorem Mok.set {E U : Nat} {m : List Int} (h : Mok E U m) {u : Nat} {x : Int} (hu : u < U) (hx : x < (E : Int)) : Mok E U (m.set u x) :=
  ⟨by rw [List.length_set]; exact h.1, fun v hv => by
    by_cases e : u = v
    · subst e; rw [rd_set_same (by rw [h.1]; exact hu)]; exact hx
    · rw [rd_set_other e]; exact h.2 v hv⟩
variable {E U : Nat} {N : List ByteArray} {V : List S47} {J : List (List Int)}
theorem loop_ok (hg : Gok E U J) (d : Nat) (ih : ∀ (m : List Int) (s : List Bool) (e : Nat), Mok E U m → s.length = U → cf s < d → e < E →
      ∃ k0 r m' s', (∀ k, k0 ≤ k → match_matched_try.f k m N V J e s = some (r, m', s')) ∧ Mok E U m' ∧ s'.length = U ∧ cf s' ≤ cf s) (e : Nat) (he : e < E) :
    ∀ (c i : Nat) (m : List Int) (s : List Bool), i + c = (rd_L4 J e).length → Mok E U m → s.length = U → cf s ≤ d →
    ∃ k0 r m' s', (∀ k, k0 ≤ k → match_matched_try.l0 k m e s (rd_L4 J e) ((rd_L4 J e).length : Int) (i : Int) N V J = some (r, m', s')) ∧ Mok E U m' ∧ s'.length = U ∧ cf s' ≤ cf s := by
  intro c
  induction c with
  | zero =>
    intro i m s hi hm hs hd
    refine ⟨1, false, m, s, fun k hk => ?_, hm, hs, Nat.le_refl _⟩
    obtain ⟨k, rfl⟩ : ∃ j, k = j + 1 := ⟨k - 1, by omega⟩
    simp only [match_matched_try.l0]
    rw [if_neg (by omega)]
  | succ c ihc =>
    intro i m s hi hm hs hd
    obtain ⟨hu0, hu1⟩ := hg.uses e he i (by omega)
    have hlen := hg.rows e he
    obtain ⟨u, hu⟩ : ∃ u : Nat, rd (rd_L4 J e) i = u := ⟨(rd (rd_L4 J e) i).toNat, by omega⟩
    have huU : u < U := by omega
    have HW := Lib.hid (wr_ (i : Int) (by omega) (by omega))
    have unf : ∀ k, match_matched_try.l0 (k + 1) m e s (rd_L4 J e) ((rd_L4 J e).length : Int) (i : Int) N V J =
        if rdOf false s (u : Int) = true then match_matched_try.l0 k m e s (rd_L4 J e) ((rd_L4 J e).length : Int) ((i + 1 : Nat) : Int) N V J
        else if rd m (u : Int) < 0 then some (true, m.set u (e : Int), s.set u true)
        else (match_matched_try.f k m N V J (rd m (u : Int)) (s.set u true)).bind fun b => if b.1 = true then some (true, b.2.1.set u (e : Int), b.2.2) else match_matched_try.l0 k b.2.1 e b.2.2 (rd_L4 J e) ((rd_L4 J e).length : Int) ((i + 1 : Nat) : Int) N V J := by
      intro k
      simp only [match_matched_try.l0]
      rw [if_pos (by omega), if_pos (by omega), if_pos (by omega), hu, if_pos (by omega), if_pos (by omega), HW.out, Int.toNat_natCast, Int.natCast_add]
      simp only [Option.bind_some]
      rw [if_pos (show (u : Int) < (m.length : Int) by rw [hm.1]; omega)]
      rfl
    cases hsu : rdOf false s (u : Int) with
    | true =>
      obtain ⟨k0, r, m', s', h1, h2, h3, h4⟩ := ihc (i + 1) m s (by omega) hm hs hd
      refine ⟨k0 + 1, r, m', s', fun k hk => ?_, h2, h3, h4⟩
      obtain ⟨k, rfl⟩ : ∃ j, k = j + 1 := ⟨k - 1, by omega⟩
      rw [unf, if_pos hsu]
      exact h1 k (by omega)
    | false =>
      have hc := cf_set (s := s) (u := u) (by omega) hsu
      by_cases hmu : rd m (u : Int) < 0
      · refine ⟨1, true, m.set u e, s.set u true, fun k hk => ?_, hm.set huU (by omega), by rw [List.length_set]; exact hs, by omega⟩
        obtain ⟨k, rfl⟩ : ∃ j, k = j + 1 := ⟨k - 1, by omega⟩
        rw [unf, if_neg (by rw [hsu]; simp), if_pos hmu]
      · obtain ⟨f, hf⟩ : ∃ f : Nat, rd m (u : Int) = f := ⟨(rd m (u : Int)).toNat, by omega⟩
        have hfE : f < E := by have := hm.2 u huU; omega
        obtain ⟨k0, r, m', s', h1, h2, h3, h4⟩ := ih m (s.set u true) f hm (by rw [List.length_set]; exact hs) (by omega) hfE
        cases r with
        | true =>
          refine ⟨k0 + 1, true, m'.set u e, s', fun k hk => ?_, h2.set huU (by omega), h3, by omega⟩
          obtain ⟨k, rfl⟩ : ∃ j, k = j + 1 := ⟨k - 1, by omega⟩
          rw [unf, if_neg (by rw [hsu]; simp), if_neg hmu, hf, h1 k (by omega)]
          rfl
        | false =>
          obtain ⟨k1, r, m2, s2, g1, g2, g3, g4⟩ := ihc (i + 1) m' s' (by omega) h2 h3 (by omega)
          refine ⟨k0 + k1 + 1, r, m2, s2, fun k hk => ?_, g2, g3, by omega⟩
          obtain ⟨k, rfl⟩ : ∃ j, k = j + 1 := ⟨k - 1, by omega⟩
          rw [unf, if_neg (by rw [hsu]; simp), if_neg hmu, hf, h1 k (by omega)]
          exact g1 k (by omega)
theorem try_ok (hg : Gok E U J) : ∀ (d : Nat) (m : List Int) (s : List Bool) (e : Nat), Mok E U m → s.length = U → cf s < d → e < E →
    ∃ k0 r m' s', (∀ k, k0 ≤ k → match_matched_try.f k m N V J e s = some (r, m', s')) ∧ Mok E U m' ∧ s'.length = U ∧ cf s' ≤ cf s := by
  intro d
  induction d with
  | zero => intro m s e hm hs hd; omega
  | succ d ih =>
    intro m s e hm hs hd he
    obtain ⟨k0, r, m', s', h1, h2⟩ := loop_ok hg d ih e he (rd_L4 J e).length 0 m s (by omega) hm hs (by omega)
    refine ⟨k0 + 1, r, m', s', fun k hk => ?_, h2⟩
    obtain ⟨k, rfl⟩ : ∃ j, k = j + 1 := ⟨k - 1, by omega⟩
    simp only [match_matched_try.f]
    rw [if_pos (by omega), if_pos (by rw [hg.len]; omega)]
    exact h1 k (by omega)
end Go.Proofs.Ytmfcefakpfbaoaa.PMatch
end
section
set_option linter.unusedVariables false
namespace Go.Proofs.Ytmfcefakpfbaoaa.PMatch
open Go.RowKit Go.Proofs.YtmfcefakpfbaoaaW.PrintWords Go.Proofs.YtmfcefakpfbaoaaW.PrintLast Go.Proofs.YtmfcefakpfbaoaaW.PrintMore
variable {E U : Nat} {N : List ByteArray} {V : List S47} {J : List (List Int)}
theorem clone_b {s : List Bool} (h : s.length ≤ 1000000) : slices_Clone_bool_bool.f s = some s := by
  unfold slices_Clone_bool_bool.f; exact if_pos (Nat.lt_of_le_of_lt h (by decide))
theorem clone_i {s : List Int} (h : s.length ≤ 1000000) : slices_Clone_int_int.f s = some s := by
  unfold slices_Clone_int_int.f; exact if_pos (Nat.lt_of_le_of_lt h (by decide))
theorem greatest_l1 (hg : Gok E U J) (hN : N.length = E) (hE : E ≤ 1000000) : ∀ (c x : Nat) (m : List Int) (s : List Bool) (n : Int), x + c = E → Mok E U m → s.length = U →
    ∃ k0 m' n', ∀ k, k0 ≤ k → match_greatest.l1 k m s n (x : Int) N V J = some (m', n') := by
  intro c
  induction c with
  | zero =>
    intro x m s n hx hm hs
    refine ⟨1, m, n, fun k hk => ?_⟩
    obtain ⟨k, rfl⟩ : ∃ j, k = j + 1 := ⟨k - 1, by omega⟩
    simp only [match_greatest.l1]
    rw [if_neg (by omega)]
  | succ c ih =>
    intro x m s n hx hm hs
    obtain ⟨k0, r, m', s', h1, h2, _, _⟩ := try_ok (N := N) (V := V) hg (cf s + 1) m s x hm hs (by omega) (by omega)
    have HW := Lib.hid (wr_ (x : Int) (by omega) (by omega))
    have HC := Lib.hid (clone_b (s := s) (by have := hg.small; omega))
    have unf : ∀ k, k0 ≤ k → match_greatest.l1 (k + 1) m s n (x : Int) N V J = if r = true then match_greatest.l1 k m' s (wrap64 (n + 1)) ((x + 1 : Nat) : Int) N V J else match_greatest.l1 k m' s n ((x + 1 : Nat) : Int) N V J := by
      intro k hk
      simp only [match_greatest.l1]
      rw [if_pos (by omega), HC.out]
      simp only [Option.bind_some]
      rw [h1 k hk, HW.out, Int.natCast_add]
      rfl
    cases r with
    | true =>
      obtain ⟨k1, m2, n2, g⟩ := ih (x + 1) m' s (wrap64 (n + 1)) (by omega) h2 hs
      refine ⟨k0 + k1 + 1, m2, n2, fun k hk => ?_⟩
      obtain ⟨k, rfl⟩ : ∃ j, k = j + 1 := ⟨k - 1, by omega⟩
      rw [unf k (by omega), if_pos rfl]
      exact g k (by omega)
    | false =>
      obtain ⟨k1, m2, n2, g⟩ := ih (x + 1) m' s n (by omega) h2 hs
      refine ⟨k0 + k1 + 1, m2, n2, fun k hk => ?_⟩
      obtain ⟨k, rfl⟩ : ∃ j, k = j + 1 := ⟨k - 1, by omega⟩
      rw [unf k (by omega), if_neg (by simp)]
      exact g k (by omega)
def Fok (U : Nat) (l : List Int) : Prop := ∀ i : Nat, i < l.length → rd l i < (U : Int)
theorem greatest_l0 (hg : Gok E U J) (hN : N.length = E) (hE : E ≤ 1000000) {l : List Int} (hl : Fok U l) (hlE : l.length ≤ E) : ∀ (c x : Nat) (m : List Int) (s : List Bool) (n : Int), x + c = l.length → Mok E U m → s.length = U →
    ∃ k0 m' n', ∀ k, k0 ≤ k → match_greatest.l0 k l m s n l (l.length : Int) (x : Int) N V J = some (m', n') := by
  intro c
  induction c with
  | zero =>
    intro x m s n hx hm hs
    obtain ⟨k0, m', n', h⟩ := greatest_l1 (V := V) hg hN hE (E - l.length) l.length m s n (by omega) hm hs
    refine ⟨k0 + 1, m', n', fun k hk => ?_⟩
    obtain ⟨k, rfl⟩ : ∃ j, k = j + 1 := ⟨k - 1, by omega⟩
    simp only [match_greatest.l0]
    rw [if_neg (by omega)]
    exact h k (by omega)
  | succ c ih =>
    intro x m s n hx hm hs
    have hu := hl x (by omega)
    have HW := Lib.hid (wr_ (x : Int) (by omega) (by omega))
    have hmU := hm.1
    by_cases h0 : rd l (x : Int) ≥ 0
    · obtain ⟨u, hu'⟩ : ∃ u : Nat, rd l (x : Int) = u := ⟨(rd l (x : Int)).toNat, by omega⟩
      obtain ⟨k0, m', n', h⟩ := ih (x + 1) (m.set u x) (s.set u true) (wrap64 (n + 1)) (by omega) (hm.set (by omega) (by omega)) (by rw [List.length_set]; exact hs)
      refine ⟨k0 + 1, m', n', fun k hk => ?_⟩
      obtain ⟨k, rfl⟩ : ∃ j, k = j + 1 := ⟨k - 1, by omega⟩
      simp only [match_greatest.l0]
      rw [if_pos (by omega), if_pos (by omega), if_pos (by omega), if_pos h0, hu', if_pos (by omega), if_pos (by omega), if_pos (by omega), HW.out, Int.toNat_natCast]
      have := h k (by omega)
      rw [Int.natCast_add] at this
      exact this
    · obtain ⟨k0, m', n', h⟩ := ih (x + 1) m s n (by omega) hm hs
      refine ⟨k0 + 1, m', n', fun k hk => ?_⟩
      obtain ⟨k, rfl⟩ : ∃ j, k = j + 1 := ⟨k - 1, by omega⟩
      simp only [match_greatest.l0]
      rw [if_pos (by omega), if_pos (by omega), if_pos (by omega), if_neg h0, HW.out]
      have := h k (by omega)
      rw [Int.natCast_add] at this
      exact this
theorem greatest_ok (hg : Gok E U J) (hN : N.length = E) (hV : V.length = U) (hE : E ≤ 1000000) {l : List Int} (hl : Fok U l) (hlE : l.length ≤ E) : ∃ k0 m n, ∀ k, k0 ≤ k → match_greatest.f k N V J l = some (m, n) := by
  have hU := hg.small
  have hm : Mok E U (List.replicate U (-1)) := ⟨List.length_replicate .., fun u hu => by simp [rd, List.getD_eq_getElem?_getD, hu]; omega⟩
  obtain ⟨k0, m, n, h⟩ := greatest_l0 (V := V) hg hN hE hl hlE l.length 0 _ (List.replicate U false) 0 (by omega) hm (by simp)
  refine ⟨k0, m, n, fun k hk => ?_⟩
  unfold match_greatest.f
  have hr : slices_Repeat_int_int.f [-1] (V.length : Int) = some (List.replicate U (-1)) := by
    unfold slices_Repeat_int_int.f
    rw [if_pos ⟨rfl, by omega, by omega⟩, hV, Int.toNat_natCast]; rfl
  rw [hr]
  simp only [Option.bind_some]
  rw [if_pos (by omega), Int.toNat_natCast, if_pos (Nat.le_trans (show V.length ≤ 1000000 by omega) (by decide)), hV]
  exact h k hk
theorem index_ok {l : List Int} (hl : l.length ≤ 1000000) (a : Int) : ∀ (c i : Nat), i + c = l.length → (∀ j : Nat, j < i → rd l j ≠ a) →
    ∃ k0 r, (∀ k, k0 ≤ k → slices_Index_int_int.l0 k l a (l.length : Int) (i : Int) = some r) ∧ ((r = -1 ∧ ∀ j : Nat, j < l.length → rd l j ≠ a) ∨ ∃ j : Nat, j < l.length ∧ rd l j = a ∧ r = j) := by
  intro c
  induction c with
  | zero =>
    intro i hi hb
    refine ⟨1, -1, fun k hk => ?_, .inl ⟨rfl, fun j hj => hb j (by omega)⟩⟩
    obtain ⟨k, rfl⟩ : ∃ j, k = j + 1 := ⟨k - 1, by omega⟩
    simp only [slices_Index_int_int.l0]
    rw [if_neg (by omega)]
  | succ c ih =>
    intro i hi hb
    have HW := Lib.hid (wr_ (i : Int) (by omega) (by omega))
    by_cases h : a = rd l (i : Int)
    · refine ⟨1, i, fun k hk => ?_, .inr ⟨i, by omega, h.symm, rfl⟩⟩
      obtain ⟨k, rfl⟩ : ∃ j, k = j + 1 := ⟨k - 1, by omega⟩
      simp only [slices_Index_int_int.l0]
      rw [if_pos (by omega), if_pos (by omega), if_pos (by omega), if_pos h]
    · obtain ⟨k0, r, h1, h2⟩ := ih (i + 1) (by omega) (fun j hj => by
        rcases Nat.lt_or_ge j i with h3 | h3
        · exact hb j h3
        · obtain rfl : j = i := by omega
          exact fun e => h e.symm)
      refine ⟨k0 + 1, r, fun k hk => ?_, h2⟩
      obtain ⟨k, rfl⟩ : ∃ j, k = j + 1 := ⟨k - 1, by omega⟩
      simp only [slices_Index_int_int.l0]
      rw [if_pos (by omega), if_pos (by omega), if_pos (by omega), if_neg h, HW.out]
      have := h1 k (by omega)
      rw [Int.natCast_add] at this
      exact this
theorem contains_ok {l : List Int} (hl : l.length ≤ 1000000) (a : Int) : ∃ k0 b, (∀ k, k0 ≤ k → slices_Contains_int_int.f k l a = some b) ∧ (b = true ↔ ∃ j : Nat, j < l.length ∧ rd l j = a) := by
  obtain ⟨k0, r, h1, h2⟩ := index_ok hl a l.length 0 (by omega) (fun j hj => by omega)
  refine ⟨k0, decide (r ≥ 0), fun k hk => ?_, ?_⟩
  · unfold slices_Contains_int_int.f slices_Index_int_int.f
    rw [show (0 : Int) = ((0 : Nat) : Int) from rfl, h1 k hk]; rfl
  · rw [decide_eq_true_eq]
    rcases h2 with ⟨rfl, h⟩ | ⟨j, h3, h4, rfl⟩
    · exact ⟨fun h => absurd h (by decide), fun ⟨j, a, b⟩ => absurd b (h j a)⟩
    · exact ⟨fun _ => ⟨j, h3, h4⟩, fun _ => by omega⟩
end Go.Proofs.Ytmfcefakpfbaoaa.PMatch
end
section
set_option linter.unusedVariables false
namespace Go.Proofs.Ytmfcefakpfbaoaa.PMatch
open Go.RowKit Go.Proofs.YtmfcefakpfbaoaaW.PrintWords Go.Proofs.YtmfcefakpfbaoaaW.PrintLast Go.Proofs.YtmfcefakpfbaoaaW.PrintMore
variable {E U : Nat} {N : List ByteArray} {V : List S47} {J : List (List Int)}
structure Out (J : List (List Int)) (e : Nat) (o : List Int) : Prop where
  len : o.length = e
  row : ∀ i : Nat, i < e → rd o i = -1 ∨ ((∃ j : Nat, j < (rd_L4 J i).length ∧ rd (rd_L4 J i) j = rd o i) ∧ ∀ i' : Nat, i' < i → rd o i' ≠ rd o i)
theorem rd_app_left {o : List Int} {x : Int} {i : Nat} (h : i < o.length) : rd (o ++ [x]) i = rd o i := by
  simp [rd, List.getD_eq_getElem?_getD, List.getElem?_append_left h]
theorem rd_app_right {o : List Int} {x : Int} : rd (o ++ [x]) o.length = x := by simp [rd, List.getD_eq_getElem?_getD]
theorem Out.snoc {e : Nat} {o : List Int} {x : Int} (h : Out J e o) (hx : x = -1 ∨ ((∃ j : Nat, j < (rd_L4 J e).length ∧ rd (rd_L4 J e) j = x) ∧ ∀ i' : Nat, i' < e → rd o i' ≠ x)) : Out J (e + 1) (o ++ [x]) := by
  refine ⟨by simp [h.len], fun i hi => ?_⟩
  rcases Nat.lt_or_ge i e with h1 | h1
  · rw [rd_app_left (by rw [h.len]; exact h1)]
    refine (h.row i h1).imp id (fun h2 => ⟨h2.1, fun i' hi' => ?_⟩)
    rw [rd_app_left (by rw [h.len]; omega)]
    exact h2.2 i' hi'
  · obtain rfl : i = e := by omega
    have e1 : rd (o ++ [x]) (i : Int) = x := by
      have := rd_app_right (o := o) (x := x)
      rwa [h.len] at this
    rw [e1]
    refine hx.imp id (fun h2 => ⟨h2.1, fun i' hi' => ?_⟩)
    rw [rd_app_left (by rw [h.len]; omega)]
    exact h2.2 i' hi'
theorem Out.fok (hg : Gok E U J) {e : Nat} {o : List Int} (h : Out J e o) (he : e ≤ E) : Fok U o := fun i hi => by
  rw [h.len] at hi
  rcases h.row i hi with h1 | ⟨⟨j, h1, h2⟩, _⟩
  · omega
  · rw [← h2]; exact (hg.uses i (by omega) j h1).2
theorem match_l1 (hg : Gok E U J) (hN : N.length = E) (hV : V.length = U) (hE : E ≤ 1000000) (most : Int) (e : Nat) (he : e < E) (o : List Int) (ho : Out J e o)
    (ih : ∀ o', Out J (e + 1) o' → ∃ k0 r, (∀ k, k0 ≤ k → match_match.l0 k most o' (E : Int) ((e + 1 : Nat) : Int) N V J = some r) ∧ Out J E r) :
    ∀ (c i : Nat), i + c = (rd_L4 J e).length → ∃ k0 r, (∀ k, k0 ≤ k → match_match.l1 k most o (-1) (E : Int) (e : Int) (rd_L4 J e) ((rd_L4 J e).length : Int) (i : Int) N V J = some r) ∧ Out J E r := by
  have HWe := Lib.hid (wr_ (e : Int) (by omega) (by omega))
  have hol := ho.len
  intro c
  induction c with
  | zero =>
    intro i hi
    obtain ⟨k0, r, h1, h2⟩ := ih (o ++ [-1]) (ho.snoc (.inl rfl))
    refine ⟨k0 + 1, r, fun k hk => ?_, h2⟩
    obtain ⟨k, rfl⟩ : ∃ j, k = j + 1 := ⟨k - 1, by omega⟩
    simp only [match_match.l1]
    rw [if_neg (by omega)]
    simp only [Option.bind_some]
    rw [if_pos (by simp; omega), HWe.out]
    have := h1 k (by omega)
    rw [Int.natCast_add] at this
    exact this
  | succ c ihc =>
    intro i hi
    have hlen := hg.rows e he
    have HW := Lib.hid (wr_ (i : Int) (by omega) (by omega))
    obtain ⟨kc, b, hc, hb⟩ := contains_ok (l := o) (by omega) (rd (rd_L4 J e) i)
    obtain ⟨kn, rn, hn1, hn2⟩ := ihc (i + 1) (by omega)
    have hn3 : ∀ k, kn ≤ k → match_match.l1 k most o (-1) (E : Int) (e : Int) (rd_L4 J e) ((rd_L4 J e).length : Int) ((i : Int) + 1) N V J = some rn := fun k hk => by
      have := hn1 k hk
      rwa [Int.natCast_add] at this
    cases b with
    | true =>
      refine ⟨kc + kn + 1, rn, fun k hk => ?_, hn2⟩
      obtain ⟨k, rfl⟩ : ∃ j, k = j + 1 := ⟨k - 1, by omega⟩
      simp only [match_match.l1]
      rw [if_pos (by omega), if_pos (by omega), if_pos (by omega), hc k (by omega)]
      simp only [Option.bind_some, if_true]
      rw [HW.out]
      exact hn3 k (by omega)
    | false =>
      have hnot : ∀ i' : Nat, i' < e → rd o i' ≠ rd (rd_L4 J e) i := fun i' hi' h => by
        have := hb.2 ⟨i', by omega, h⟩
        cases this
      have hsn := ho.snoc (x := rd (rd_L4 J e) i) (.inr ⟨⟨i, by omega, rfl⟩, hnot⟩)
      obtain ⟨kg, m, n, hgr⟩ := greatest_ok (N := N) (V := V) hg hN hV hE (l := o ++ [rd (rd_L4 J e) i]) (hsn.fok hg (by omega)) (by rw [hsn.len]; omega)
      have HCL := Lib.hid (clone_i (s := o) (by omega))
      have unf : ∀ k, kc + kg ≤ k → match_match.l1 (k + 1) most o (-1) (E : Int) (e : Int) (rd_L4 J e) ((rd_L4 J e).length : Int) (i : Int) N V J =
          if n = most then match_match.l0 k most (o ++ [rd (rd_L4 J e) i]) (E : Int) ((e + 1 : Nat) : Int) N V J else match_match.l1 k most o (-1) (E : Int) (e : Int) (rd_L4 J e) ((rd_L4 J e).length : Int) ((i : Int) + 1) N V J := by
        intro k hk
        simp only [match_match.l1]
        rw [if_pos (by omega), if_pos (by omega), if_pos (by omega), hc k (by omega)]
        simp only [Option.bind_some]
        rw [if_neg (by simp), HCL.out]
        simp only [Option.bind_some]
        rw [if_pos (by simp; omega), hgr k (by omega)]
        simp only [Option.bind_some]
        by_cases hm : n = most
        · rw [if_pos hm, if_pos hm, if_pos (by simp; omega), HWe.out, Int.natCast_add]; rfl
        · rw [if_neg hm, if_neg hm, HW.out]
      by_cases hmost : n = most
      · obtain ⟨k0, r, h1, h2⟩ := ih _ hsn
        refine ⟨kc + kg + k0 + 1, r, fun k hk => ?_, h2⟩
        obtain ⟨k, rfl⟩ : ∃ j, k = j + 1 := ⟨k - 1, by omega⟩
        rw [unf k (by omega), if_pos hmost]
        exact h1 k (by omega)
      · refine ⟨kc + kg + kn + 1, rn, fun k hk => ?_, hn2⟩
        obtain ⟨k, rfl⟩ : ∃ j, k = j + 1 := ⟨k - 1, by omega⟩
        rw [unf k (by omega), if_neg hmost]
        exact hn3 k (by omega)
theorem match_l0 (hg : Gok E U J) (hN : N.length = E) (hV : V.length = U) (hE : E ≤ 1000000) (most : Int) : ∀ (c e : Nat) (o : List Int), e + c = E → Out J e o →
    ∃ k0 r, (∀ k, k0 ≤ k → match_match.l0 k most o (E : Int) (e : Int) N V J = some r) ∧ Out J E r := by
  intro c
  induction c with
  | zero =>
    intro e o he ho
    refine ⟨1, o, fun k hk => ?_, by rw [← he]; exact ho⟩
    obtain ⟨k, rfl⟩ : ∃ j, k = j + 1 := ⟨k - 1, by omega⟩
    simp only [match_match.l0]
    rw [if_neg (by omega)]
  | succ c ih =>
    intro e o he ho
    obtain ⟨k0, r, h1, h2⟩ := match_l1 hg hN hV hE most e (by omega) o ho (fun o' ho' => ih (e + 1) o' (by omega) ho') (rd_L4 J e).length 0 (by omega)
    refine ⟨k0 + 1, r, fun k hk => ?_, h2⟩
    obtain ⟨k, rfl⟩ : ∃ j, k = j + 1 := ⟨k - 1, by omega⟩
    simp only [match_match.l0]
    rw [if_pos (by omega), if_pos (by omega), if_pos (by rw [hg.len]; omega)]
    exact h1 k (by omega)
theorem match_ok (hg : Gok E U J) (hN : N.length = E) (hV : V.length = U) (hE : E ≤ 1000000) : ∃ k0 r, (∀ k, k0 ≤ k → match_match.f k N V J = some r) ∧ Out J E r := by
  obtain ⟨kg, m, n, hgr⟩ := greatest_ok (N := N) (V := V) hg hN hV hE (l := []) (fun i hi => by simp at hi) (by simp)
  obtain ⟨k0, r, h1, h2⟩ := match_l0 (N := N) (V := V) hg hN hV hE n E 0 [] (by omega) ⟨rfl, fun i hi => by omega⟩
  refine ⟨kg + k0, r, fun k hk => ?_, h2⟩
  unfold match_match.f
  rw [hgr k (by omega)]
  simp only [Option.bind_some]
  rw [if_pos (by omega), Int.toNat_natCast, if_pos (Nat.le_trans (show N.length ≤ 1000000 by omega) (by decide)), hN]
  exact h1 k (by omega)
end Go.Proofs.Ytmfcefakpfbaoaa.PMatch
end
section
set_option linter.unusedVariables false
namespace Go.Proofs.Ytmfcefakpfbaoaa.PMatch
open Go.RowKit Go.Proofs.YtmfcefakpfbaoaaW.PrintWords Go.Proofs.YtmfcefakpfbaoaaW.PrintLast Go.Proofs.YtmfcefakpfbaoaaW.PrintMore
def RowUp (U : Nat) (l : List Int) : Prop := ∀ i : Nat, i < l.length → 0 ≤ rd l i ∧ rd l i < U ∧ (0 < i → rd l ((i : Int) - 1) < rd l i)
theorem check_row {E : List ByteArray} {U : List S47} {J Jx : List (List Int)} {n x78 : Int} {row : List Int} (hr : RowUp U.length row) (hl : row.length < 4611686018427387904)
    (hk : ∃ k, match_check.l2 k Jx n (wrap64 (x78 + 1)) E U J = some 0) : ∀ m i : Nat, i + m = row.length → ∃ k, match_check.l3 k row Jx n x78 row (row.length : Int) (i : Int) E U J = some 0
  | 0, i, h => by
    obtain ⟨k, hk⟩ := hk
    exact ⟨k + 1, by rw [match_check.l3, if_neg (by omega)]; exact hk⟩
  | m + 1, i, h => by
    obtain ⟨k, hk⟩ := check_row hr hl hk m (i + 1) (by omega)
    obtain ⟨h1, h2, h3⟩ := hr i (by omega)
    have e : wrap64 ((i : Int) + 1) = ((i + 1 : Nat) : Int) := by unfold wrap64; omega
    refine ⟨k + 1, ?_⟩
    rw [match_check.l3, if_pos (by omega), if_pos (by omega), if_pos (by omega), if_neg (by omega), if_neg (by omega), e]
    by_cases h0 : (i : Int) > 0
    · have e2 : wrap64 ((i : Int) - 1) = (i : Int) - 1 := by unfold wrap64; omega
      have h4 := h3 (by omega)
      rw [if_pos h0, e2, if_pos (by omega), if_pos (by omega), if_neg (by omega)]
      exact hk
    · rw [if_neg h0]
      exact hk
theorem check_rows {E : List ByteArray} {U : List S47} {J : List (List Int)} (hr : ∀ i : Nat, i < J.length → RowUp U.length (rd_L4 J i) ∧ (rd_L4 J i).length < 4611686018427387904) (hl : J.length < 4611686018427387904)
    (hE : E.length ≤ 120) (hU : U.length ≤ 400) : ∀ m i : Nat, i + m = J.length → ∃ k, match_check.l2 k J (J.length : Int) (i : Int) E U J = some 0
  | 0, i, h => ⟨1, by rw [match_check.l2, if_neg (by omega), if_neg (by omega), if_neg (by omega)]⟩
  | m + 1, i, h => by
    obtain ⟨h1, h2⟩ := hr i (by omega)
    have e : wrap64 ((i : Int) + 1) = ((i + 1 : Nat) : Int) := by unfold wrap64; omega
    obtain ⟨k, hk⟩ := check_row h1 h2 (E := E) (J := J) (Jx := J) (n := (J.length : Int)) (x78 := (i : Int)) (by rw [e]; exact check_rows hr hl hE hU m (i + 1) (by omega)) _ 0 (Nat.zero_add _)
    exact ⟨k + 1, by rw [match_check.l2, if_pos (by omega), if_pos (by omega), if_pos (by omega)]; exact hk⟩
theorem less_k (k : Nat) (a : ByteArray) (b : Int) (c : Bool) (a' : ByteArray) (b' : Int) (c' : Bool) : expr_Less.f (k + 1) a b c a' b' c' = expr_Less.f 1 a b c a' b' c' := by
  simp only [expr_Less.f, expr_Less.j0]
def UsesUp (U : List S47) : Prop := ∀ i : Nat, i < U.length → expr_Fit.f (rd_T47 U i).f0 (rd_T47 U i).f1 (rd_T47 U i).f2 = some true ∧ (rd_T47 U i).f2 = false ∧ (0 < i → ∃ v, expr_Less.f 1 (rd_T47 U ((i : Int) - 1)).f0 (rd_T47 U ((i : Int) - 1)).f1 (rd_T47 U ((i : Int) - 1)).f2 (rd_T47 U i).f0 (rd_T47 U i).f1 (rd_T47 U i).f2 = some v ∧ v < 0)
theorem check_uses {E : List ByteArray} {U : List S47} {J : List (List Int)} (hu : UsesUp U) (hl : U.length < 4611686018427387904) (hk : ∃ k, match_check.l2 k J (J.length : Int) 0 E U J = some 0) : ∀ m i : Nat, i + m = U.length → ∃ k, match_check.l1 k U (U.length : Int) (i : Int) E U J = some 0
  | 0, i, h => by
    obtain ⟨k, hk⟩ := hk
    exact ⟨k + 1, by rw [match_check.l1, if_neg (by omega)]; exact hk⟩
  | m + 1, i, h => by
    obtain ⟨k, hk⟩ := check_uses hu hl hk m (i + 1) (by omega)
    obtain ⟨h1, h2, h3⟩ := hu i (by omega)
    have e : wrap64 ((i : Int) + 1) = ((i + 1 : Nat) : Int) := by unfold wrap64; omega
    match k, hk with
    | 0, hk => simp [match_check.l1] at hk
    | k + 1, hk =>
      refine ⟨k + 1 + 1, ?_⟩
      rw [match_check.l1, if_pos (by omega), if_pos (by omega), if_pos (by omega), h1, Option.bind_some, if_pos rfl, if_neg (by rw [h2]; decide), e]
      by_cases h0 : (i : Int) > 0
      · have e2 : wrap64 ((i : Int) - 1) = (i : Int) - 1 := by unfold wrap64; omega
        obtain ⟨v, h4, h5⟩ := h3 (by omega)
        rw [if_pos h0, e2, if_pos (by omega), if_pos (by omega), less_k, h4, Option.bind_some, if_neg (by omega)]
        exact hk
      · rw [if_neg h0]
        exact hk
def NamesUp (E : List ByteArray) : Prop := ∀ i : Nat, i < E.length → nameB (rdOf ByteArray.empty E i) = true ∧ (0 < i → Op.bytesLess (rdOf ByteArray.empty E ((i : Int) - 1)).toList (rdOf ByteArray.empty E i).toList = true)
theorem check_names {E : List ByteArray} {U : List S47} {J : List (List Int)} (hu : NamesUp E) (hl : E.length < 4611686018427387904) (hk : ∃ k, match_check.l1 k U (U.length : Int) 0 E U J = some 0) : ∀ m i : Nat, i + m = E.length → ∃ k, match_check.l0 k E (E.length : Int) (i : Int) E U J = some 0
  | 0, i, h => by
    obtain ⟨k, hk⟩ := hk
    exact ⟨k + 1, by rw [match_check.l0, if_neg (by omega)]; exact hk⟩
  | m + 1, i, h => by
    obtain ⟨k, hk⟩ := check_names hu hl hk m (i + 1) (by omega)
    obtain ⟨h1, h3⟩ := hu i (by omega)
    have e : wrap64 ((i : Int) + 1) = ((i + 1 : Nat) : Int) := by unfold wrap64; omega
    refine ⟨k + 1, ?_⟩
    rw [match_check.l0, if_pos (by omega), if_pos (by omega), if_pos (by omega), expr_Name.f, if_pos h1, Option.bind_some, if_pos rfl, e]
    by_cases h0 : (i : Int) > 0
    · have e2 : wrap64 ((i : Int) - 1) = (i : Int) - 1 := by unfold wrap64; omega
      rw [if_pos h0, e2, if_pos (by omega), if_pos (by omega), if_pos (h3 (by omega))]
      exact hk
    · rw [if_neg h0]
      exact hk
theorem check_ok {E : List ByteArray} {U : List S47} {J : List (List Int)} (hn : NamesUp E) (hu : UsesUp U) (hJ : J.length = E.length) (hr : ∀ i : Nat, i < J.length → RowUp U.length (rd_L4 J i) ∧ (rd_L4 J i).length < 4611686018427387904) (hE : E.length ≤ 120) (hU : U.length ≤ 400) : ∃ k, match_check.f k E U J = some 0 := by
  obtain ⟨k, hk⟩ := check_names hn (by omega) (check_uses hu (by omega) (check_rows hr (by omega) hE hU _ 0 (Nat.zero_add _)) _ 0 (Nat.zero_add _)) _ 0 (Nat.zero_add _)
  exact ⟨k, by rw [match_check.f, if_pos (by omega)]; exact hk⟩
theorem check_up {E : List ByteArray} {U : List S47} {J : List (List Int)} {r : Int} {k0 : Nat} (h : match_check.f k0 E U J = some r) : ∀ k, k0 ≤ k → match_check.f k E U J = some r := by
  intro k hk
  obtain ⟨d, rfl⟩ := Nat.exists_eq_add_of_le hk
  clear hk
  induction d with
  | zero => exact h
  | succ d ih => exact match_check.mono E U J (k0 + d) r ih
end Go.Proofs.Ytmfcefakpfbaoaa.PMatch
end
