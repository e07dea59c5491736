/- Lemmas for RowBltAny. -/
import Derived.Test.YtmfcefakpfbaoaaProg
import Derived.OrdersHeld
import Derived.Deep.RegionHeld
section
set_option linter.unusedVariables false
namespace Go.Proofs.Ytmfcefakpfbaoaa.OrdL
section
variable {P : Program} {ops : Array Oper} {Q : Exit → Act → World → Prop} {md : Region.Mode} {S : World → Prop} {m l : List Nat}
def After (S : World → Prop) (m l : List Nat) (i : Nat) (w w' : World) : Prop := if i ∈ m then w' = w else (i ∈ l ∨ S w')
def wpL (P : Program) (md : Region.Mode) (ops : Array Oper) (Q : Exit → Act → World → Prop) (S : World → Prop) (m l : List Nat) : Nat → Array Bool → Act → World → Prop
  | 0, listed, a, w => Region.ready md ops listed = [] ∧ Q .normal a w
  | n + 1, listed, a, w => (Region.ready md ops listed = [] → Q .normal a w) ∧
      ∀ i ∈ Region.ready md ops listed, wpOp P ops Q i (fun a' w' => After S m l i w w' ∧ wpL P md ops Q S m l n (listed.setIfInBounds i true) a' w') a w
theorem After.same {i : Nat} {w : World} (h : S w) : After S m l i w w := by
  unfold After
  split
  · rfl
  · exact .inr h
theorem After.keep {i : Nat} {w w' : World} (h : After S m l i w w') (hi : i ∉ l) (hS : S w) : S w' := by
  unfold After at h
  split at h
  · rw [h]; exact hS
  · exact h.resolve_left hi
theorem any_of_L : ∀ (n : Nat) (listed : Array Bool) (a : Act) (w : World), wpL P md ops Q S m l n listed a w → wpAny P md ops Q n listed a w := by
  intro n
  induction n with
  | zero => exact fun _ _ _ h => h
  | succ n ih => exact fun listed a w h => ⟨h.1, fun i hi => wpOp_mono (fun a' w' k => ih _ a' w' k.2) (h.2 i hi)⟩
def waits (md : Region.Mode) (ops : Array Oper) (l : List Nat) (i : Nat) : Bool := l.all fun t => match ops[t]? with
  | some o => o.after.any (fun e => Region.binds md e && e.on == i)
  | none => true
theorem waits_spec {i t : Nat} (h : waits md ops l i = true) (ht : t ∈ l) (o : Oper) (ho : ops[t]? = some o) : ∃ e ∈ o.after, Region.binds md e = true ∧ e.on = i := by
  have h := List.all_eq_true.1 h t ht
  rw [ho] at h
  obtain ⟨e, he, hb⟩ := Array.any_eq_true'.1 h
  simp only [Bool.and_eq_true, beq_iff_eq] at hb
  exact ⟨e, he, hb⟩
theorem first {i : Nat} {oi : Oper} {v : Value} (hi : ops[i]? = some oi) (hsel : ∀ (j : Nat) (o : Oper) cs b, ops[j]? = some o → o.op ≠ .select cs b)
    (hQ : ∀ c a w, Q (.panic c) (a.put oi.dst v) w → Q (.panic c) a w) (hl : waits md ops l i = true) :
    ∀ (n : Nat) (listed : Array Bool) (a : Act) (w : World),
      (∀ j oj, ops[j]? = some oj → j ≠ i → listed.getD j true = false → (∀ e ∈ oj.after, Region.binds md e = true → e.on ≠ i) → oi.apart ops oj = true) →
      i ∈ Region.ready md ops listed → YieldsIf P ops S oi v a → S w →
      wpL P md ops Q S m l n (listed.setIfInBounds i true) (a.put oi.dst v) w → wpL P md ops Q S m l (n + 1) listed a w := by
  intro n
  induction n with
  | zero =>
    intro listed a w _ hr hy hS H
    refine ⟨fun h => absurd hr (by rw [h]; simp), fun j hj => ?_⟩
    by_cases e : j = i
    · rw [e]; exact hy.wpOp hi hS ⟨After.same hS, H⟩
    · exact absurd (ready_mono hj e) (by rw [H.1]; simp)
  | succ n ih =>
    intro listed a w hfree hr hy hS H
    refine ⟨fun h => absurd hr (by rw [h]; simp), fun j hj => ?_⟩
    by_cases e : j = i
    · rw [e]; exact hy.wpOp hi hS ⟨After.same hS, H⟩
    · have k1 := H.2 j (ready_mono hj e)
      obtain ⟨hun, oj, hoj, hall⟩ := mem_ready.1 hj
      have hi0 := (mem_ready.1 hr).1
      have hno : ∀ x ∈ oj.after, Region.binds md x = true → x.on ≠ i := fun x hx hb hxi => by
        have k := hall x hx hb
        rw [hxi] at k
        rcases Nat.lt_or_ge i listed.size with h' | h'
        · simp [h'] at hi0 k; rw [hi0] at k; cases k
        · simp [Array.getElem?_eq_none h'] at k
      have hjl : j ∉ l := fun hjl => by
        obtain ⟨x, hx, hb, hxi⟩ := waits_spec hl hjl oj hoj
        exact hno x hx hb hxi
      refine wpOp_mono (fun a' w' k3 => ?_) (wpOp_putIf hoj (hfree j oj hoj e hun hno) (fun cs b => hsel i oi cs b hi) (fun cs b => hsel j oj cs b hoj) hQ hy k1)
      have hS' : S w' := k3.2.1.keep hjl hS
      refine ⟨k3.2.1, ih _ a' w' (fun m om hm hmi hun' hno' => hfree m om hm hmi ?_ hno') (ready_mono hr (Ne.symm e)) k3.1 hS' ?_⟩
      · by_cases hjm : j = m
        · subst hjm; exact hun
        · rwa [getD_set_ne true hjm] at hun'
      · rw [Array.setIfInBounds_comm _ _ e]; exact k3.2.2
theorem take {i : Nat} {oi : Oper} {v : Value} {d : Option Tmp} {n : Nat} {listed : Array Bool} {a : Act} {w : World} (hi : ops[i]? = some oi) (hd : oi.dst = d)
    (hs : Region.noSelect ops = true) (hf : Region.free md ops listed i = true) (hr : (Region.ready md ops listed).contains i = true) (hl : waits md ops l i = true)
    (hQ : ∀ c a w, Q (.panic c) (a.put oi.dst v) w → Q (.panic c) a w) (hS : S w)
    (hy : Region.wanted oi (yielded ops a.tmps) = true ∧ ∀ w, S w → (execOp a.eval oi).run P w = .ok (.value v) w)
    (h : wpL P md ops Q S m l n (listed.setIfInBounds i true) (a.put d v) w) : wpL P md ops Q S m l (n + 1) listed a w :=
  first hi (Region.noSelect_spec hs) hQ hl n listed a w (Region.free_spec hi hf) (by simpa using hr) (.inl hy) hS (hd ▸ h)
theorem skip {i : Nat} {oi : Oper} {d : Option Tmp} {n : Nat} {listed : Array Bool} {a : Act} {w : World} (hi : ops[i]? = some oi) (hd : oi.dst = d)
    (hs : Region.noSelect ops = true) (hf : Region.free md ops listed i = true) (hr : (Region.ready md ops listed).contains i = true) (hl : waits md ops l i = true)
    (hQ : ∀ c a w, Q (.panic c) (a.put oi.dst undef) w → Q (.panic c) a w) (hS : S w)
    (hy : Region.wanted oi (yielded ops a.tmps) = false)
    (h : wpL P md ops Q S m l n (listed.setIfInBounds i true) (a.put d undef) w) : wpL P md ops Q S m l (n + 1) listed a w :=
  first hi (Region.noSelect_spec hs) hQ hl n listed a w (Region.free_spec hi hf) (by simpa using hr) (.inr ⟨hy, rfl⟩) hS (hd ▸ h)
theorem firstW {i : Nat} {oi : Oper} {v : Value} (hi : ops[i]? = some oi) (hm : i ∈ m) (hsel : ∀ (j : Nat) (o : Oper) cs b, ops[j]? = some o → o.op ≠ .select cs b)
    (hQ : ∀ c a w, Q (.panic c) (a.put oi.dst v) w → Q (.panic c) a w) :
    ∀ (n : Nat) (listed : Array Bool) (a : Act) (w : World),
      (∀ j oj, ops[j]? = some oj → j ≠ i → listed.getD j true = false → (∀ e ∈ oj.after, Region.binds md e = true → e.on ≠ i) → oi.apart ops oj = true) →
      i ∈ Region.ready md ops listed → YieldsIf P ops (fun _ => True) oi v a →
      wpL P md ops Q S m l n (listed.setIfInBounds i true) (a.put oi.dst v) w → wpL P md ops Q S m l (n + 1) listed a w := by
  intro n
  induction n with
  | zero =>
    intro listed a w _ hr hy H
    refine ⟨fun h => absurd hr (by rw [h]; simp), fun j hj => ?_⟩
    by_cases e : j = i
    · rw [e]; exact hy.wpOp hi trivial ⟨(if_pos hm).mpr rfl, H⟩
    · exact absurd (ready_mono hj e) (by rw [H.1]; simp)
  | succ n ih =>
    intro listed a w hfree hr hy H
    refine ⟨fun h => absurd hr (by rw [h]; simp), fun j hj => ?_⟩
    by_cases e : j = i
    · rw [e]; exact hy.wpOp hi trivial ⟨(if_pos hm).mpr rfl, H⟩
    · have k1 := H.2 j (ready_mono hj e)
      obtain ⟨hun, oj, hoj, hall⟩ := mem_ready.1 hj
      have hi0 := (mem_ready.1 hr).1
      have hno : ∀ x ∈ oj.after, Region.binds md x = true → x.on ≠ i := fun x hx hb hxi => by
        have k := hall x hx hb
        rw [hxi] at k
        rcases Nat.lt_or_ge i listed.size with h' | h'
        · simp [h'] at hi0 k; rw [hi0] at k; cases k
        · simp [Array.getElem?_eq_none h'] at k
      refine wpOp_mono (fun a' w' k3 => ?_) (wpOp_putIf hoj (hfree j oj hoj e hun hno) (fun cs b => hsel i oi cs b hi) (fun cs b => hsel j oj cs b hoj) hQ hy k1)
      refine ⟨k3.2.1, ih _ a' w' (fun m om hm hmi hun' hno' => hfree m om hm hmi ?_ hno') (ready_mono hr (Ne.symm e)) k3.1 ?_⟩
      · by_cases hjm : j = m
        · subst hjm; exact hun
        · rwa [getD_set_ne true hjm] at hun'
      · rw [Array.setIfInBounds_comm _ _ e]; exact k3.2.2
theorem takeW {i : Nat} {oi : Oper} {v : Value} {d : Option Tmp} {n : Nat} {listed : Array Bool} {a : Act} {w : World} (hi : ops[i]? = some oi) (hd : oi.dst = d) (hm : m.contains i = true)
    (hs : Region.noSelect ops = true) (hf : Region.free md ops listed i = true) (hr : (Region.ready md ops listed).contains i = true)
    (hQ : ∀ c a w, Q (.panic c) (a.put oi.dst v) w → Q (.panic c) a w)
    (hy : Region.wanted oi (yielded ops a.tmps) = true ∧ ∀ w, (execOp a.eval oi).run P w = .ok (.value v) w)
    (h : wpL P md ops Q S m l n (listed.setIfInBounds i true) (a.put d v) w) : wpL P md ops Q S m l (n + 1) listed a w :=
  firstW hi (by simpa using hm) (Region.noSelect_spec hs) hQ n listed a w (Region.free_spec hi hf) (by simpa using hr) (.inl ⟨hy.1, fun w _ => hy.2 w⟩) (hd ▸ h)
theorem step {i : Nat} {oi : Oper} {n : Nat} {listed : Array Bool} {a : Act} {w : World} (hi : ops[i]? = some oi) (hm : m.contains i = false) (hr : Region.ready md ops listed = [i])
    (h : ∀ K' : Act → World → Prop, Shut (∀ a w, S w → (S w → wpL P md ops Q S m l n (listed.setIfInBounds i true) a w) → K' a w) → if Region.wanted oi (yielded ops a.tmps) = true then Oper.wp P oi a w K' Q else K' (a.put oi.dst undef) w) : wpL P md ops Q S m l (n + 1) listed a w :=
  ⟨(fun e => absurd (hr.symm.trans e) (List.cons_ne_nil _ _)), fun j hj => by
    rw [hr, List.mem_singleton] at hj
    subst hj
    exact wpOp_step hi (fun K' hK => h K' (fun a w hS hW => hK a w ⟨(if_neg (by simpa using hm)).mpr (.inr hS), hW hS⟩))⟩
theorem last {i : Nat} {oi : Oper} {n : Nat} {listed : Array Bool} {a : Act} {w : World} (hi : ops[i]? = some oi) (hm : m.contains i = false) (hl : l.contains i = true) (hr : Region.ready md ops listed = [i])
    (h : ∀ K' : Act → World → Prop, Shut (∀ a w, wpL P md ops Q S m l n (listed.setIfInBounds i true) a w → K' a w) → if Region.wanted oi (yielded ops a.tmps) = true then Oper.wp P oi a w K' Q else K' (a.put oi.dst undef) w) : wpL P md ops Q S m l (n + 1) listed a w :=
  ⟨(fun e => absurd (hr.symm.trans e) (List.cons_ne_nil _ _)), fun j hj => by
    rw [hr, List.mem_singleton] at hj
    subst hj
    exact wpOp_step hi (fun K' hK => h K' (fun a w hW => hK a w ⟨(if_neg (by simpa using hm)).mpr (.inl (by simpa using hl)), hW⟩))⟩
theorem done {listed : Array Bool} {a : Act} {w : World} (hr : Region.ready md ops listed = []) (h : Q .normal a w) : ∀ n, wpL P md ops Q S m l n listed a w
  | 0 => ⟨hr, h⟩
  | _ + 1 => ⟨fun _ => h, by rw [hr]; simp⟩
theorem begin_ {id : Nat} {a : Act} {w : World} (m l : List Nat) (hm : P.follows .mixedOrders = true) (hS : S w.drew)
    (h : S w.drew → wpL P .any ops Q S m l ops.size (Array.replicate ops.size false) a w.drew) : (Code.region id ops true).wp P Q a w :=
  wp_region_any hm (any_of_L _ _ _ _ (h hS))
end
end Go.Proofs.Ytmfcefakpfbaoaa.OrdL
end
