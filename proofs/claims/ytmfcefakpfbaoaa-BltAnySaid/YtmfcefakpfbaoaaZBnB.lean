/- Lemmas for RowBltAny. -/
import Derived.Test.YtmfcefakpfbaoaaQE
section
set_option linter.unusedVariables false
namespace Go.Proofs.Ytmfcefakpfbaoaa.PMatch
open Go.RowKit Go.Proofs.YtmfcefakpfbaoaaW.PrintWords Go.Proofs.YtmfcefakpfbaoaaW.PrintLast Go.Proofs.YtmfcefakpfbaoaaW.PrintMore
variable {E U : Nat} {N : List ByteArray} {V : List S47} {J : List (List Int)}
def cnt (m : List Int) (x : Nat) : Nat := m.countP fun y => y == (x : Int)
theorem cnt_set {m : List Int} {u : Nat} {y : Int} {x : Nat} (hu : u < m.length) : cnt (m.set u y) x + (if rd m u = x then 1 else 0) = cnt m x + (if y = x then 1 else 0) := by
  unfold cnt
  have h1 : rd m u = m[u] := by simp [rd, List.getD_eq_getElem?_getD, hu]
  have h2 : m.countP (fun y => y == (x : Int)) = (m.take u ++ m[u] :: m.drop (u + 1)).countP (fun y => y == (x : Int)) := by
    congr 1
    rw [List.getElem_cons_drop, List.take_append_drop]
  have h3 : m.set u y = m.take u ++ y :: m.drop (u + 1) := List.set_eq_take_append_cons_drop.trans (if_pos hu)
  rw [h2, h3, h1, List.countP_append, List.countP_append, List.countP_cons, List.countP_cons]
  simp only [beq_iff_eq]
  omega
theorem seen_same {s : List Bool} {u : Nat} (h : u < s.length) : rdOf false (s.set u true) (u : Int) = true := by simp [rdOf, List.getD_eq_getElem?_getD, h]
theorem seen_other {s : List Bool} {u v : Nat} (h : u ≠ v) : rdOf false (s.set u true) (v : Int) = rdOf false s v := by
  simp [rdOf, List.getD_eq_getElem?_getD, List.getElem?_set_ne h]
structure TrySpec (U : Nat) (J : List (List Int)) (e i : Nat) (m : List Int) (s : List Bool) (r : Bool) (m' : List Int) (s' : List Bool) : Prop where
  grow : ∀ u : Nat, u < U → rdOf false s u = true → rdOf false s' u = true
  keep : ∀ u : Nat, u < U → rdOf false s u = true → rd m' u = rd m u
  lose : r = false → m' = m ∧ (∀ j u : Nat, i ≤ j → j < (rd_L4 J e).length → rd (rd_L4 J e) j = u → rdOf false s' u = true) ∧
    ∀ u : Nat, u < U → rdOf false s' u = true → rdOf false s u = false → 0 ≤ rd m u ∧ ∀ f j w : Nat, rd m u = f → j < (rd_L4 J f).length → rd (rd_L4 J f) j = w → rdOf false s' w = true
  win : r = true → (∀ u : Nat, u < U → rd m' u = rd m u ∨ ∃ f j : Nat, rd m' u = f ∧ j < (rd_L4 J f).length ∧ rd (rd_L4 J f) j = u) ∧ ∀ x : Nat, cnt m' x = cnt m x + (if x = e then 1 else 0)
theorem loop_ok2 (hg : Gok E U J) (d : Nat) (ih : ∀ (m : List Int) (s : List Bool) (e : Nat), Mok E U m → s.length = U → cf s < d → e < E →
      ∃ k0 r m' s', (∀ k, k0 ≤ k → match_matched_try.f k m N V J e s = some (r, m', s')) ∧ Mok E U m' ∧ s'.length = U ∧ cf s' ≤ cf s ∧ TrySpec U J e 0 m s r m' s') (e : Nat) (he : e < E) :
    ∀ (c i : Nat) (m : List Int) (s : List Bool), i + c = (rd_L4 J e).length → Mok E U m → s.length = U → cf s ≤ d →
    ∃ k0 r m' s', (∀ k, k0 ≤ k → match_matched_try.l0 k m e s (rd_L4 J e) ((rd_L4 J e).length : Int) (i : Int) N V J = some (r, m', s')) ∧ Mok E U m' ∧ s'.length = U ∧ cf s' ≤ cf s ∧ TrySpec U J e i m s r m' s' := by
  intro c
  induction c with
  | zero =>
    intro i m s hi hm hs hd
    refine ⟨1, false, m, s, fun k hk => ?_, hm, hs, Nat.le_refl _, fun u _ h => h, fun _ _ _ => rfl, fun _ => ⟨rfl, fun j u h1 h2 _ => by omega, fun u _ h1 h2 => by rw [h1] at h2; cases h2⟩, fun h => by cases h⟩
    obtain ⟨k, rfl⟩ : ∃ j, k = j + 1 := ⟨k - 1, by omega⟩
    simp only [match_matched_try.l0]
    rw [if_neg (by omega)]
  | succ c ihc =>
    intro i m s hi hm hs hd
    obtain ⟨hu0, hu1⟩ := hg.uses e he i (by omega)
    have hlen := hg.rows e he
    obtain ⟨u, hu⟩ : ∃ u : Nat, rd (rd_L4 J e) i = u := ⟨(rd (rd_L4 J e) i).toNat, by omega⟩
    have huU : u < U := by omega
    have HW := Lib.hid (wr_ (i : Int) (by omega) (by omega))
    have unf : ∀ k, match_matched_try.l0 (k + 1) m e s (rd_L4 J e) ((rd_L4 J e).length : Int) (i : Int) N V J =
        if rdOf false s (u : Int) = true then match_matched_try.l0 k m e s (rd_L4 J e) ((rd_L4 J e).length : Int) ((i + 1 : Nat) : Int) N V J
        else if rd m (u : Int) < 0 then some (true, m.set u (e : Int), s.set u true)
        else (match_matched_try.f k m N V J (rd m (u : Int)) (s.set u true)).bind fun b => if b.1 = true then some (true, b.2.1.set u (e : Int), b.2.2) else match_matched_try.l0 k b.2.1 e b.2.2 (rd_L4 J e) ((rd_L4 J e).length : Int) ((i + 1 : Nat) : Int) N V J := by
      intro k
      simp only [match_matched_try.l0]
      rw [if_pos (by omega), if_pos (by omega), if_pos (by omega), hu, if_pos (by omega), if_pos (by omega), HW.out, Int.toNat_natCast, Int.natCast_add]
      simp only [Option.bind_some]
      rw [if_pos (show (u : Int) < (m.length : Int) by rw [hm.1]; omega)]
      rfl
    cases hsu : rdOf false s (u : Int) with
    | true =>
      obtain ⟨k0, r, m', s', h1, h2, h3, h4, h5⟩ := ihc (i + 1) m s (by omega) hm hs hd
      refine ⟨k0 + 1, r, m', s', fun k hk => ?_, h2, h3, h4, h5.grow, h5.keep, fun hr => ?_, h5.win⟩
      · obtain ⟨k, rfl⟩ : ∃ j, k = j + 1 := ⟨k - 1, by omega⟩
        rw [unf, if_pos hsu]
        exact h1 k (by omega)
      · obtain ⟨g1, g2, g3⟩ := h5.lose hr
        refine ⟨g1, fun j v hj hjl hv => ?_, g3⟩
        by_cases hji : j = i
        · subst hji
          have : u = v := by omega
          subst this
          exact h5.grow u huU hsu
        · exact g2 j v (by omega) hjl hv
    | false =>
      have hc := cf_set (s := s) (u := u) (by omega) hsu
      by_cases hmu : rd m (u : Int) < 0
      · refine ⟨1, true, m.set u e, s.set u true, fun k hk => ?_, hm.set huU (by omega), by rw [List.length_set]; exact hs, by omega, fun v hv h => ?_, fun v hv h => ?_, (fun h => by cases h), fun _ => ⟨fun v hv => ?_, fun x => ?_⟩⟩
        · obtain ⟨k, rfl⟩ : ∃ j, k = j + 1 := ⟨k - 1, by omega⟩
          rw [unf, if_neg (by rw [hsu]; simp), if_pos hmu]
        · by_cases e1 : u = v
          · subst e1; exact seen_same (by omega)
          · rw [seen_other e1]; exact h
        · have e1 : u ≠ v := fun e1 => by subst e1; rw [hsu] at h; cases h
          exact rd_set_other e1
        · by_cases e1 : u = v
          · subst e1; exact .inr ⟨e, i, rd_set_same (by rw [hm.1]; exact huU), by omega, hu⟩
          · exact .inl (rd_set_other e1)
        · have h1 := cnt_set (m := m) (u := u) (y := (e : Int)) (x := x) (by rw [hm.1]; exact huU)
          rw [if_neg (show ¬ rd m (u : Int) = (x : Int) by omega)] at h1
          by_cases hx : x = e
          · rw [if_pos (by omega)] at h1; rw [if_pos hx]; omega
          · rw [if_neg (by omega)] at h1; rw [if_neg hx]; omega
      · obtain ⟨f, hf⟩ : ∃ f : Nat, rd m (u : Int) = f := ⟨(rd m (u : Int)).toNat, by omega⟩
        have hfE : f < E := by have := hm.2 u huU; omega
        obtain ⟨k0, r, m', s', h1, h2, h3, h4, h5⟩ := ih m (s.set u true) f hm (by rw [List.length_set]; exact hs) (by omega) hfE
        have hsm : ∀ v : Nat, v < U → rdOf false s v = true → rdOf false (s.set u true) v = true := fun v hv h => by
          by_cases e1 : u = v
          · subst e1; exact seen_same (by omega)
          · rw [seen_other e1]; exact h
        have hsu' : rdOf false (s.set u true) u = true := seen_same (by omega)
        have hne : ∀ v : Nat, rdOf false s v = true → u ≠ v := fun v h e1 => by subst e1; rw [hsu] at h; cases h
        cases r with
        | true =>
          obtain ⟨g1, g2⟩ := h5.win rfl
          refine ⟨k0 + 1, true, m'.set u e, s', fun k hk => ?_, h2.set huU (by omega), h3, by omega, fun v hv h => h5.grow v hv (hsm v hv h), fun v hv h => ?_, (fun h => by cases h), fun _ => ⟨fun v hv => ?_, fun x => ?_⟩⟩
          · obtain ⟨k, rfl⟩ : ∃ j, k = j + 1 := ⟨k - 1, by omega⟩
            rw [unf, if_neg (by rw [hsu]; simp), if_neg hmu, hf, h1 k (by omega)]
            rfl
          · rw [rd_set_other (hne v h)]
            exact h5.keep v hv (hsm v hv h)
          · by_cases e1 : u = v
            · subst e1; exact .inr ⟨e, i, rd_set_same (by rw [h2.1]; exact huU), by omega, hu⟩
            · rw [rd_set_other e1]; exact g1 v hv
          · have h6 := cnt_set (m := m') (u := u) (y := (e : Int)) (x := x) (by rw [h2.1]; exact huU)
            have h7 := g2 x
            rw [h5.keep u huU hsu', hf] at h6
            by_cases hx : x = e
            · rw [if_pos hx]
              rw [if_pos (show (e : Int) = (x : Int) by omega)] at h6
              by_cases hxf : x = f
              · rw [if_pos hxf] at h7; rw [if_pos (show (f : Int) = (x : Int) by omega)] at h6; omega
              · rw [if_neg hxf] at h7; rw [if_neg (show ¬ (f : Int) = (x : Int) by omega)] at h6; omega
            · rw [if_neg hx]
              rw [if_neg (show ¬ (e : Int) = (x : Int) by omega)] at h6
              by_cases hxf : x = f
              · rw [if_pos hxf] at h7; rw [if_pos (show (f : Int) = (x : Int) by omega)] at h6; omega
              · rw [if_neg hxf] at h7; rw [if_neg (show ¬ (f : Int) = (x : Int) by omega)] at h6; omega
        | false =>
          obtain ⟨g1, g2, g3⟩ := h5.lose rfl
          subst g1
          obtain ⟨k1, r, m2, s2, f1, f2, f3, f4, f5⟩ := ihc (i + 1) m' s' (by omega) h2 h3 (by omega)
          refine ⟨k0 + k1 + 1, r, m2, s2, fun k hk => ?_, f2, f3, by omega, fun v hv h => f5.grow v hv (h5.grow v hv (hsm v hv h)), fun v hv h => f5.keep v hv (h5.grow v hv (hsm v hv h)), fun hr => ?_, f5.win⟩
          · obtain ⟨k, rfl⟩ : ∃ j, k = j + 1 := ⟨k - 1, by omega⟩
            rw [unf, if_neg (by rw [hsu]; simp), if_neg hmu, hf, h1 k (by omega)]
            exact f1 k (by omega)
          · obtain ⟨p1, p2, p3⟩ := f5.lose hr
            have hw : ∀ f j w : Nat, f < E → j < (rd_L4 J f).length → rd (rd_L4 J f) j = w → w < U := fun f j w hf hj hw => by have := hg.uses f hf j hj; omega
            refine ⟨p1, fun j v hj hjl hv => ?_, fun v hv h6 h7 => ?_⟩
            · by_cases hji : j = i
              · subst hji
                have : u = v := by omega
                subst this
                exact f5.grow u huU (h5.grow u huU hsu')
              · exact p2 j v (by omega) hjl hv
            · cases h8 : rdOf false s' v with
              | true =>
                by_cases e1 : u = v
                · subst e1
                  refine ⟨by omega, fun f2 j w hf2 hj hjw => ?_⟩
                  have : f2 = f := by omega
                  subst this
                  exact f5.grow w (hw _ _ _ hfE hj hjw) (g2 j w (Nat.zero_le _) hj hjw)
                · obtain ⟨q1, q2⟩ := g3 v hv h8 (by rw [seen_other e1]; exact h7)
                  exact ⟨q1, fun f2 j w hf2 hj hjw => f5.grow w (hw f2 j w (by have := hm.2 v hv; omega) hj hjw) (q2 f2 j w hf2 hj hjw)⟩
              | false => exact p3 v hv h6 h8
theorem try_ok2 (hg : Gok E U J) : ∀ (d : Nat) (m : List Int) (s : List Bool) (e : Nat), Mok E U m → s.length = U → cf s < d → e < E →
    ∃ k0 r m' s', (∀ k, k0 ≤ k → match_matched_try.f k m N V J e s = some (r, m', s')) ∧ Mok E U m' ∧ s'.length = U ∧ cf s' ≤ cf s ∧ TrySpec U J e 0 m s r m' s' := by
  intro d
  induction d with
  | zero => intro m s e hm hs hd; omega
  | succ d ih =>
    intro m s e hm hs hd he
    obtain ⟨k0, r, m', s', h1, h2⟩ := loop_ok2 hg d ih e he (rd_L4 J e).length 0 m s (by omega) hm hs (by omega)
    refine ⟨k0 + 1, r, m', s', fun k hk => ?_, h2⟩
    obtain ⟨k, rfl⟩ : ∃ j, k = j + 1 := ⟨k - 1, by omega⟩
    simp only [match_matched_try.f]
    rw [if_pos (by omega), if_pos (by rw [hg.len]; omega)]
    exact h1 k (by omega)
end Go.Proofs.Ytmfcefakpfbaoaa.PMatch
end
