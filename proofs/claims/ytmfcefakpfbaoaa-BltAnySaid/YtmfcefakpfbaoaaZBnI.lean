/- Lemmas for RowBltAny. -/
import Derived.Test.YtmfcefakpfbaoaaZBmV
section
set_option linter.unusedVariables false
namespace Go.Proofs.Ytmfcefakpfbaoaa.PMatch
open Go.ChangeShapes Go.WideShapes Go.RowKit Go.Deep Go.Proofs.YtmfcefakpfbaoaaW.PrintWords
section
variable {H : Type} {enc : TypeId × Value → H} {w : World} {base : Nat} {held : Bool}
theorem u8_wf {i : Int} (h : (Lit.int .u8 i).wf = true) : 0 ≤ i ∧ i ≤ 255 := by
  have h2 : IntKind.u8.min ≤ i ∧ i ≤ IntKind.u8.max := by simpa [Lit.wf] using h
  have h3 : IntKind.u8.min = 0 := by decide
  have h4 : IntKind.u8.max = 255 := by decide
  omega
set_option maxRecDepth 100000 in
theorem open_bytes {b0 : Nat} {d : DataW H} {p : List MemPlace} {v : Value} (hv : Value.okWide Try.prog w .any b0 45 v) (h : DataW.Trod enc Try.prog w base (fun _ => true) held 45 v d p) :
    ∃ (Y : List Int) (AY : Option Addr) (cY : Nat), v = .slice AY Y.length cY ∧ Kd.C (Kd.int .u8) w AY Y.length Y ∧ ∀ j : Nat, j < Y.length → 0 ≤ rd Y j ∧ rd Y j ≤ 255 := by
  obtain ⟨a0, l0, c0, rfl⟩ := okWide_slice Try.underlying45 hv
  obtain ⟨fuel, hf⟩ := h
  have e5 : Try.prog.cellsOf 5 = 1 := by kernel_rfl
  rcases open_slice Try.underlying45 hf with ⟨hn, _⟩ | ⟨a, len, cap, m, n, D, Pl, hs, hb, hl, hm, hmm, _, hx⟩
  · injection hn with hn _
    rw [hn]
    exact ⟨[], none, 0, rfl, Kd.C_nil _ w, fun j hj => absurd hj (Nat.not_lt_zero _)⟩
  · injection hs with hs _
    rw [hs]
    simp only [if_true] at hmm
    subst hmm
    rw [e5] at hx
    have each : ∀ i, i < m → ∃ x : Int, (0 ≤ x ∧ x ≤ 255) ∧ w.cell? (a.add i) = some (.int .u8 x) := fun i hi => by
      obtain ⟨cs', h1, h2⟩ := hx i hi
      obtain ⟨x, rfl, _, hwf⟩ := DataW.trod_int Try.underlying5 h2
      obtain ⟨_, h4, h5⟩ := World.cells?_some h1
      have h6 := h5 0 (by omega)
      rw [Nat.mul_one] at h6
      refine ⟨x, u8_wf hwf, ?_⟩
      have h7 : (a.add i).add 0 = a.add i := by rw [Go.Deep.add_add, Nat.add_zero]
      rw [← h7]; exact h6
    obtain ⟨f, hf2⟩ := choose_lt each
    have hle : ((List.range len).map f).length = len := by simp
    refine ⟨(List.range len).map f, some a, m, by rw [hle], ?_, fun j hj => ?_⟩
    · refine ⟨rfl, by rw [hle]; unfold maxLen at hm; omega, fun _ => ⟨a, rfl, fun j p hj => ?_⟩⟩
      have hjl := (List.getElem?_eq_some_iff.1 hj).1
      rw [hle] at hjl
      rw [List.getElem?_map, List.getElem?_range hjl] at hj
      obtain rfl := Option.some.inj hj
      refine ⟨[.int .u8 (f j)], rfl, rfl, fun q u hu => ?_⟩
      rcases q with _ | q
      · injection hu with hu; subst hu
        have h9 := (hf2 j (by omega)).2
        have h10 : (Kd.int .u8).sz = 1 := rfl
        rw [h10, Nat.mul_one, Nat.add_zero]; exact h9
      · simp at hu
    · rw [hle] at hj
      have h8 : rd ((List.range len).map f) (j : Int) = f j := by rw [rd, Int.toNat_natCast, List.getD_eq_getElem?_getD, List.getElem?_map, List.getElem?_range hj]; rfl
      rw [h8]; exact (hf2 j (by omega)).1
end
end Go.Proofs.Ytmfcefakpfbaoaa.PMatch
end
