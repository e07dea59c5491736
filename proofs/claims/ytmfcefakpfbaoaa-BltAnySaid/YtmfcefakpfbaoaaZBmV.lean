/- Lemmas for RowBltAny. -/
import Derived.Test.YtmfcefakpfbaoaaZPMatchx0
import Derived.WalkKit
import Derived.ProofKit
import Derived.OpenShut
import Derived.Deep.Slices
import Derived.Deep.Strs
section
set_option linter.unusedVariables false
namespace Go.Proofs.Ytmfcefakpfbaoaa.PMatch
open Go.ChangeShapes Go.WideShapes Go.RowKit Go.Deep Go.Proofs.YtmfcefakpfbaoaaW.PrintWords
section
variable {H : Type} {enc : TypeId × Value → H} {w : World} {base : Nat} {held : Bool}
theorem open_kd {α : Type} {d : Kd α} {P : Program} {t e : TypeId} {fuel : Nat} {cs : List Value} {x : DataW H × List MemPlace} (z : α) (ht : P.underlying t = some (.slice e)) (hsz : P.cellsOf e = d.sz)
    (hel : ∀ (n : Nat) (cs' : List Value) y, DataW.trod enc P w base (fun _ => true) held n e cs' = some y → ∃ p, d.K w p cs') (h : DataW.trod enc P w base (fun _ => true) held fuel t cs = some x) :
    ∃ A len cap xs, cs = [.slice A len cap] ∧ len ≤ cap ∧ xs.length = len ∧ Kd.C d w A xs.length xs := by
  rcases open_slice ht h with ⟨rfl, _⟩ | ⟨a, len, cap, m, n, D, Pl, rfl, hb, hl, hm, hmm, _, hx⟩
  · exact ⟨none, 0, 0, [], rfl, Nat.le_refl _, rfl, Kd.C_nil d w⟩
  · simp only [if_true] at hmm
    subst hmm
    have each : ∀ i, i < m → ∃ p, ∃ cs', d.K w p cs' ∧ cs'.length = d.sz ∧ ∀ (j : Nat) u, cs'[j]? = some u → w.cell? (a.add (i * d.sz + j)) = some u := fun i hi => by
      obtain ⟨cs', h1, h2⟩ := hx i hi
      obtain ⟨p, hp⟩ := hel n cs' _ h2
      obtain ⟨_, h4, h5⟩ := World.cells?_some h1
      rw [hsz] at h4 h5
      refine ⟨p, cs', hp, h4, fun j u hu => ?_⟩
      have hj := (List.getElem?_eq_some_iff.1 hu).1
      rw [← Go.Deep.add_add, h5 j (by omega), hu]
    haveI : Inhabited α := ⟨z⟩
    obtain ⟨f, hf⟩ := choose_lt each
    refine ⟨some a, len, m, (List.range len).map f, rfl, hl, by simp, ?_⟩
    have hle : ((List.range len).map f).length = len := by simp
    refine ⟨rfl, by rw [hle]; unfold maxLen at hm; omega, fun _ => ⟨a, rfl, fun j p hj => ?_⟩⟩
    have hjl := (List.getElem?_eq_some_iff.1 hj).1
    rw [hle] at hjl
    rw [List.getElem?_map, List.getElem?_range hjl] at hj
    obtain rfl := Option.some.inj hj
    obtain ⟨cs', h1, h2, h3⟩ := hf j (by omega)
    exact ⟨cs', h2, h1, h3⟩
set_option maxRecDepth 100000 in
theorem open_graph {b0 : Nat} {d : DataW H} {p : List MemPlace} {v : Value} (hv : Value.okWide Try.prog w .any b0 26 v) (h : DataW.Trod enc Try.prog w base (fun _ => true) held 26 v d p) :
    ∃ (E : List ByteArray) (U : List S47) (J : List (List Int)) (A0 : Option Addr) (c0 : Nat) (A1 : Option Addr) (c1 : Nat) (A2 : Option Addr) (c2 : Nat), v = .agg #[.slice A0 E.length c0, .slice A1 U.length c1, .slice A2 J.length c2] ∧
      Kd.C Kd.string w A0 E.length E ∧ E.length ≤ c0 ∧ Kd.C k47 w A1 U.length U ∧ U.length ≤ c1 ∧ Kd.C (Kd.slice 3 (Kd.int .i64)) w A2 J.length J ∧ J.length ≤ c2 := by
  obtain ⟨cs, rfl, hsz⟩ := okWide_struct Try.underlying26 hv
  have h3 : Try.prog.cellsOf 26 = 3 := by kernel_rfl
  rw [h3] at hsz
  obtain ⟨fuel, hf⟩ := h
  obtain ⟨y0, y1, y2, n, _, hl, t0, t1, t2⟩ := trod_struct3 Try.underlying26 hf
  have e0 : Try.prog.cellsOf 22 = 1 := by kernel_rfl
  have e1 : Try.prog.cellsOf 23 = 1 := by kernel_rfl
  have e2 : Try.prog.cellsOf 24 = 1 := by kernel_rfl
  have e9 : Try.prog.cellsOf 9 = 1 := by kernel_rfl
  have e47 : Try.prog.cellsOf 47 = 3 := by kernel_rfl
  have e31 : Try.prog.cellsOf 31 = 1 := by kernel_rfl
  have e3 : Try.prog.cellsOf 3 = 1 := by kernel_rfl
  have e4 : Try.prog.cellsOf 4 = 1 := by kernel_rfl
  obtain ⟨l⟩ := cs
  match l, hsz with
  | [v0, v1, v2], _ =>
    simp only [Value.cells, List.drop_zero, List.drop_succ_cons, e0, e1, e2, List.take_succ_cons, List.take_zero] at t0 t1 t2
    obtain ⟨A0, l0, c0, E, q0, le0, hl0, k0⟩ := open_kd (d := Kd.string) ByteArray.empty Try.underlying22 (by rw [e9]; rfl) (fun n cs' y hy => by
      obtain ⟨s, rfl, _, _⟩ := DataW.trod_string Try.underlying9 hy
      exact ⟨s, rfl⟩) t0
    obtain ⟨A1, l1, c1, U, q1, le1, hl1, k1⟩ := open_kd (d := k47) z47 Try.underlying23 (by rw [e47]; rfl) (fun n cs' y hy => by
      obtain ⟨z0, z1, z2, m, _, hl', u0, u1, u2⟩ := trod_struct3 Try.underlying47 hy
      rw [e47] at hl'
      match cs', hl' with
      | [a0, a1, a2], _ =>
        simp only [List.drop_zero, List.drop_succ_cons, e9, e3, e4, List.take_succ_cons, List.take_zero] at u0 u1 u2
        obtain ⟨s, q0, _, _⟩ := DataW.trod_string Try.underlying9 u0
        obtain ⟨i, q1, _, _⟩ := DataW.trod_int Try.underlying3 u1
        obtain ⟨b, q2, _⟩ := DataW.trod_bool Try.underlying4 u2
        injection q0 with q0 _; injection q1 with q1 _; injection q2 with q2 _
        subst q0; subst q1; subst q2
        exact ⟨⟨s, i, b⟩, k47_mk w ⟨s, i, b⟩⟩) t1
    obtain ⟨A2, l2, c2, J, q2, le2, hl2, k2⟩ := open_kd (d := Kd.slice 3 (Kd.int .i64)) [] Try.underlying24 (by rw [e31]; rfl) (fun n cs' y hy => by
      obtain ⟨B, m, c, xs, rfl, h5, h6, h7⟩ := open_kd (d := Kd.int .i64) 0 Try.underlying31 (by rw [e3]; rfl) (fun n cs' y hy => by
        obtain ⟨i, rfl, _, _⟩ := DataW.trod_int Try.underlying3 hy
        exact ⟨i, rfl⟩) hy
      subst h6
      exact ⟨xs, _, _, rfl, h5, h7⟩) t2
    injection q0 with q0 _; injection q1 with q1 _; injection q2 with q2 _
    subst q0; subst q1; subst q2; subst hl0; subst hl1; subst hl2
    exact ⟨E, U, J, A0, c0, A1, c1, A2, c2, rfl, k0, le0, k1, le1, k2, le2⟩
end
end Go.Proofs.Ytmfcefakpfbaoaa.PMatch
end
