/- Lemmas for RowBltAny. -/
import Derived.Test.YtmfcefakpfbaoaaQE
section
set_option linter.unusedVariables false
set_option linter.unusedSimpArgs false
namespace Go.Proofs.Ytmfcefakpfbaoaa.PMatch
open Go.RowKit Go.Proofs.YtmfcefakpfbaoaaW.PrintWords Go.Proofs.YtmfcefakpfbaoaaW.PrintLast Go.Proofs.YtmfcefakpfbaoaaW.PrintMore
structure Valid (E : List ByteArray) (U : List S47) (J : List (List Int)) : Prop where
  names : NamesUp E
  uses : UsesUp U
  len : J.length = E.length
  rows : ∀ i : Nat, i < J.length → RowUp U.length (rd_L4 J i) ∧ (rd_L4 J i).length ≤ 1000000
  hE : E.length ≤ 120
  hU : U.length ≤ 400
def Matched (E : List ByteArray) (U : List S47) (J : List (List Int)) (m : List Int) : Prop := ∃ k0, ∀ k, k0 ≤ k → match_match.f k E U J = some m
section
variable {E : List ByteArray} {U : List S47} {J : List (List Int)} {m m' : List Int}
theorem Matched.one (h : Matched E U J m) (h' : Matched E U J m') : m = m' := by
  obtain ⟨k, hk⟩ := h
  obtain ⟨k', hk'⟩ := h'
  have h1 := hk (k + k') (by omega)
  rw [hk' (k + k') (by omega)] at h1
  exact (Option.some.inj h1).symm
theorem Valid.gok (h : Valid E U J) : Gok E.length U.length J :=
  ⟨h.len, by have := h.hU; omega, fun e he => (h.rows e (by rw [h.len]; exact he)).2, fun e he i hi => by
    have := (h.rows e (by rw [h.len]; exact he)).1 i hi
    exact ⟨this.1, this.2.1⟩⟩
theorem Valid.matched (h : Valid E U J) : ∃ m, Matched E U J m ∧ Out J E.length m := by
  obtain ⟨k0, r, h1, h2⟩ := match_ok (N := E) (V := U) h.gok rfl rfl (by have := h.hE; omega)
  exact ⟨r, ⟨k0, h1⟩, h2⟩
theorem Valid.out (h : Valid E U J) (hm : Matched E U J m) : Out J E.length m := by
  obtain ⟨m', h1, h2⟩ := h.matched
  rw [hm.one h1]; exact h2
theorem c_Match (hv : Valid E U J) (hm : Matched E U J m) {A0 : Option Addr} {c0 : Nat} {A1 : Option Addr} {c1 : Nat} {A2 : Option Addr} {c2 : Nat} {w : World} (h0 : Kd.C Kd.string w A0 E.length E) (hc0 : E.length ≤ c0) (h1 : Kd.C k47 w A1 U.length U) (hc1 : U.length ≤ c1)
    (h2 : Kd.C (Kd.slice 3 (Kd.int .i64)) w A2 J.length J) (hc2 : J.length ≤ c2) :
    Calls Try.prog 44 #[.agg #[.slice A0 E.length c0, .slice A1 U.length c1, .slice A2 J.length c2]] w fun e w' => ∃ A c, e = .returned (.tuple #[.slice A m.length c, .int .i64 0]) ∧ Kd.R (Kd.int .i64) 3 w' w.heap.size (fun _ => True) (.slice A m.length c) m ∧ Below w.heap.size w w' := by
  obtain ⟨k1, hk1⟩ := check_ok hv.names hv.uses hv.len (fun i hi => ⟨(hv.rows i hi).1, by have := (hv.rows i hi).2; omega⟩) hv.hE hv.hU
  obtain ⟨k0, hk0⟩ := hm
  have hf : match_Match.f (k0 + k1) E U J = some (m, 0) := by
    unfold match_Match.f
    rw [check_up hk1 (k0 + k1) (by omega), hk0 (k0 + k1) (by omega)]; rfl
  refine (match_Match.calls (k0 + k1) A0 c0 E A1 c1 U A2 c2 J m 0 w h0 hc0 h1 hc1 h2 hc2 hf).mono ?_
  rintro e w' ⟨v, rfl, h3, h4⟩
  obtain ⟨A, c, rfl⟩ := Kd.R_slice h3
  exact ⟨A, c, rfl, h3, h4⟩
end
end Go.Proofs.Ytmfcefakpfbaoaa.PMatch
end
