/- Lemmas for RowBltAny. -/
import Derived.Test.YtmfcefakpfbaoaaZBmE
import Derived.Test.YtmfcefakpfbaoaaZBmH
section
set_option linter.unusedVariables false
set_option linter.unusedSimpArgs false
namespace Go.Proofs.Ytmfcefakpfbaoaa.PMatch
open Go.RowKit Go.Proofs.YtmfcefakpfbaoaaW.PrintWords Go.Proofs.YtmfcefakpfbaoaaW.PrintLast Go.Proofs.YtmfcefakpfbaoaaW.PrintMore
open Blt (ints blocksB needsB)
theorem mem_rd {l : List Int} {x : Int} : x ∈ l ↔ ∃ j : Nat, j < l.length ∧ rd l j = x := by
  rw [List.mem_iff_getElem]
  constructor
  · rintro ⟨j, hj, h⟩
    exact ⟨j, hj, by rw [← h]; simp [rd, List.getD_eq_getElem?_getD, hj]⟩
  · rintro ⟨j, hj, h⟩
    exact ⟨j, hj, by rw [← h]; simp [rd, List.getD_eq_getElem?_getD, hj]⟩
set_option maxRecDepth 100000 in
set_option maxHeartbeats 4000000 in
theorem c_in {A : Option Addr} {c : Nat} {l : List Int} {x : Int} {w : World} (h : Kd.C (Kd.int .i64) w A l.length l) : Calls Try.prog 14 #[.slice A l.length c, .int .i64 x] w fun e w' => e = .returned (.bool (decide (x ∈ l))) ∧ w' = w := by
  have hmx := Kd.C_max h
  have HC := Lib.hid h
  clear h
  go_enter Try.func14, Try.ntmps14
  go_wp2_with fail
  go_loopw [5] (fun v W => ∃ i : Nat, v = .int .i64 i ∧ i ≤ l.length ∧ W = w ∧ ∀ j : Nat, j < i → rd l j ≠ x) (fun v _ => l.length - (intOf v).toNat)
  case atStart => exact ⟨0, rfl, Nat.zero_le _, rfl, fun j hj => absurd hj (Nat.not_lt_zero _)⟩
  case round =>
    obtain ⟨i, rfl, hi, rfl, hno⟩ := hrel
    have HNo := Lib.hid hno
    clear hno
    by_cases hil : i < l.length
    · have hil' : (i : Int) < (l.length : Int) := by omega
      have hi0 : (0 : Int) ≤ (i : Int) := by omega
      obtain ⟨ad, hA, hc⟩ := Kd.at_int HC.out (i : Int) hi0 hil'
      subst hA
      rw [Int.toNat_natCast] at hc
      by_cases hx : rd l (i : Int) = x
      · have HX := Lib.hid (mem_rd.2 ⟨i, hil, hx⟩)
        go_wp2_with fail
        go_ret
        exact ⟨by rw [decide_eq_true HX.out]; rfl, rfl⟩
      · go_wp2_with fail
        refine ⟨⟨i + 1, by rw [Int.natCast_add]; rfl, by omega, by first | trivial | rfl, fun j hj => ?_⟩, by simp [intOf]; omega⟩
        by_cases h : j < i
        · exact HNo.out j h
        · obtain rfl : j = i := by omega
          exact hx
    · have hil' : ¬ (i : Int) < (l.length : Int) := by omega
      have HX := Lib.hid (show x ∉ l from fun h => by obtain ⟨j, hj, h2⟩ := mem_rd.1 h; exact HNo.out j (by omega) h2)
      go_wp2_with fail
      go_ret
      exact ⟨by rw [decide_eq_false HX.out]; rfl, rfl⟩
section
variable {E : List ByteArray} {U : List S47} {J : List (List Int)} {m : List Int} {A0 : Option Addr} {c0 : Nat} {A1 : Option Addr} {c1 : Nat} {A2 : Option Addr} {c2 : Nat} {w : World}
set_option maxRecDepth 100000 in
set_option maxHeartbeats 4000000 in
theorem c_eq {e : Nat} {s : ByteArray} (h0 : Kd.C Kd.string w A0 E.length E) (he : e < E.length) (hs : (E.getD e ByteArray.empty).toList = s.toList) (hd : ∀ i, i < e → (E.getD i ByteArray.empty).toList ≠ s.toList):
    Calls Try.prog 15 #[.agg #[.slice A0 E.length c0, .slice A1 U.length c1, .slice A2 J.length c2], .string s] w fun ex w' => ex = .returned (.int .i64 (e : Int)) ∧ Below w.heap.size w w' := by
  have hb1 : Below w.heap.size w (w.alloc (.cells #[.slice A0 E.length c0, .slice A1 U.length c1, .slice A2 J.length c2] 26)) := (Below.refl _ _).alloc (Nat.le_refl _) _
  have hmx := Kd.C_max h0
  have HG := Lib.hid (And.intro (Kd.C_below h0 hb1) (And.intro hs (And.intro hd hb1)))
  have hu26 := Try.underlying26
  clear h0 hs hd hb1
  go_enter Try.func15, Try.ntmps15
  go_wp2_with fail
  obtain ⟨w2, hw2⟩ : ∃ w2, w2 = w.alloc (.cells #[.slice A0 E.length c0, .slice A1 U.length c1, .slice A2 J.length c2] 26) := ⟨_, rfl⟩
  rw [← hw2]
  have g0 : w2.cell? ⟨w.heap.size, 0, none⟩ = some (.slice A0 E.length c0) := by rw [hw2, World.cell?_alloc_at _ _ _ _ rfl]; rfl
  rw [← hw2] at HG
  clear hw2
  go_loopw [5] (fun v W => ∃ i : Nat, v = .int .i64 i ∧ i ≤ e ∧ W = w2) (fun v _ => E.length - (intOf v).toNat)
  case atStart => exact ⟨0, rfl, Nat.zero_le _, rfl⟩
  case round =>
    obtain ⟨i, rfl, hi, rfl⟩ := hrel
    have hil' : (i : Int) < (E.length : Int) := by omega
    have hi0 : (0 : Int) ≤ (i : Int) := by omega
    obtain ⟨ad, hA, hc⟩ := Kd.at_string HG.out.1 (i : Int) hi0 hil'
    subst hA
    rw [Int.toNat_natCast, rdOf, Int.toNat_natCast] at hc
    obtain ⟨x, hx⟩ : ∃ x, x = E.getD i ByteArray.empty := ⟨_, rfl⟩
    rw [← hx] at hc
    have HX := Lib.hid hx
    clear hx
    by_cases hie : i = e
    · have hxs : x.toList = s.toList := by rw [HX.out, hie]; exact HG.out.2.1
      subst hie
      go_wp2_with fail
      go_ret
      exact ⟨rfl, HG.out.2.2.2⟩
    · have hxs : (x.toList == s.toList) = false := by rw [HX.out]; exact beq_eq_false_iff_ne.2 (HG.out.2.2.1 i (by omega))
      go_wp2_with fail
      exact ⟨⟨i + 1, by rw [Int.natCast_add]; rfl, by omega, by first | trivial | rfl⟩, by simp [intOf]; omega⟩
set_option maxRecDepth 100000 in
set_option maxHeartbeats 4000000 in
theorem c_Blocks_no (hv : Valid E U J) (hm : Matched E U J m) (hh : ¬ Has E U m) (h0 : Kd.C Kd.string w A0 E.length E) (hc0 : E.length ≤ c0) (h1 : Kd.C k47 w A1 U.length U) (hc1 : U.length ≤ c1)
    (h2 : Kd.C (Kd.slice 3 (Kd.int .i64)) w A2 J.length J) (hc2 : J.length ≤ c2) :
    Calls Try.prog 16 #[.agg #[.slice A0 E.length c0, .slice A1 U.length c1, .slice A2 J.length c2]] w fun e w' => e = .returned (.tuple #[.slice none 0 0, .int .i64 13]) ∧ Below w.heap.size w w' := by
  have hb1 : Below w.heap.size w (w.alloc (.cells #[.slice A0 E.length c0, .slice A1 U.length c1, .slice A2 J.length c2] 26)) := (Below.refl _ _).alloc (Nat.le_refl _) _
  have hs := c_sort_no hv hm hh h0 hc0 h1 hc1 h2 hc2 hb1
  have HS := Lib.hid hs
  have HB := Lib.hid hb1
  have hu26 := Try.underlying26
  clear hv hm hh h0 hc0 h1 hc1 h2 hc2 hs hb1
  go_enter Try.func16, Try.ntmps16
  go_wp2_with fail
  refine HS.out.mono ?_
  rintro ex w2 ⟨rfl, hb2⟩
  have HX := Lib.hid hb2
  clear hb2
  go_wp2_with fail
  go_ret2
  exact ⟨rfl, HB.out.trans (HX.out.mono HB.out.size)⟩
structure Solv (E : List ByteArray) (U : List S47) (J : List (List Int)) (m : List Int) : Prop where
  valid : Valid E U J
  good : Good E U J
  matched : Matched E U J m
  has : Has E U m
  small : E.length ≤ 14
set_option maxRecDepth 100000 in
set_option maxHeartbeats 4000000 in
theorem c_solved (h0 : Kd.C Kd.string w A0 E.length E) (hc0 : E.length ≤ c0) (h1 : Kd.C k47 w A1 U.length U) (hc1 : U.length ≤ c1)
    (h2 : Kd.C (Kd.slice 3 (Kd.int .i64)) w A2 J.length J) (hc2 : J.length ≤ c2) :
    Calls Try.prog 9 #[.agg #[.slice A0 E.length c0, .slice A1 U.length c1, .slice A2 J.length c2]] w fun e w' => Below w.heap.size w w' ∧
      (e = .returned (.tuple #[.slice none 0 0, .bool false]) ∨ ∃ m A c, Solv E U J m ∧ e = .returned (.tuple #[.slice A (blocksB E.length (ndB J m)).length c, .bool true]) ∧ (blocksB E.length (ndB J m)).length ≤ c ∧ Kd.C partK w' A (blocksB E.length (ndB J m)).length ((blocksB E.length (ndB J m)).map (partOf E U m))) := by
  have hb1 : Below w.heap.size w (w.alloc (.cells #[.slice A0 E.length c0, .slice A1 U.length c1, .slice A2 J.length c2] 26)) := (Below.refl _ _).alloc (Nat.le_refl _) _
  have hck := r_Check (c0 := c0) (c1 := c1) (c2 := c2) (Kd.C_below h0 hb1) (Kd.C_below h1 hb1) (Kd.C_below h2 hb1)
  have HC := Lib.hid hck
  have HG := Lib.hid (And.intro h0 (And.intro hc0 (And.intro h1 (And.intro hc1 (And.intro h2 hc2)))))
  have HB := Lib.hid hb1
  have hu26 := Try.underlying26
  have hs1 : (w.alloc (.cells #[.slice A0 E.length c0, .slice A1 U.length c1, .slice A2 J.length c2] 26)).heap.size = w.heap.size + 1 := by simp
  have HS := Lib.hid hs1
  clear h0 hc0 h1 hc1 h2 hc2 hb1 hck hs1
  go_enter Try.func9, Try.ntmps9
  go_wp2_with fail
  refine HC.out.mono ?_
  rintro ex w2 ⟨r, rfl, hr, hb2⟩
  rw [HS.out] at hb2
  have hcell : ∀ (i : Nat) (v : Value), #[Value.slice A0 E.length c0, .slice A1 U.length c1, .slice A2 J.length c2][i]? = some v → w2.cell? ⟨w.heap.size, i, none⟩ = some v := fun i v hv => (hb2.cell (by exact Nat.lt_succ_self _)).trans (by rw [World.cell?_alloc_at _ _ _ _ rfl]; exact hv)
  have g0 := hcell 0 _ rfl
  have g1 := hcell 1 _ rfl
  have g2 := hcell 2 _ rfl
  have HX := Lib.hid (And.intro hr (HB.out.trans (hb2.mono (Nat.le_succ _))))
  clear hr hb2 hcell
  by_cases hr0 : r = 0
  · subst hr0
    have hv := (HX.out.1 rfl).1
    have hgd := (HX.out.1 rfl).2
    have hJl : J.length = E.length := hv.len
    have hEl := hv.hE
    have hUl := hv.hU
    obtain ⟨m, hm, _⟩ := hv.matched
    have HV := Lib.hid (And.intro hv (And.intro hm hJl))
    have HGD := Lib.hid hgd
    clear hv hm hJl hgd
    go_wp2_with fail
    refine (r_Great (E := E) (U := U) (J := J)).mono ?_
    rintro ex w3 ⟨rfl, hb3⟩
    have g0' := pw_cell_below hb3 g0
    have g1' := pw_cell_below hb3 g1
    have g2' := pw_cell_below hb3 g2
    have HX3 := Lib.hid (HX.out.2.trans (hb3.mono HX.out.2.size))
    clear hb3
    cases hgr : greatI E.length U.length J.length
    · have hsm : E.length ≤ 14 := by
        unfold greatI at hgr
        simp only [Bool.or_eq_false_iff, Bool.and_eq_false_iff, decide_eq_false_iff_not] at hgr
        omega
      have HSM := Lib.hid hsm
      clear hgr hsm
      go_wp2_with fail
      by_cases hh : Has E U m
      · refine (c_Blocks HV.out.1 HV.out.2.1 hh (Kd.C_below HG.out.1 HX3.out) HG.out.2.1 (Kd.C_below HG.out.2.2.1 HX3.out) HG.out.2.2.2.1 (Kd.C_below HG.out.2.2.2.2.1 HX3.out) HG.out.2.2.2.2.2).mono ?_
        rintro ex w4 ⟨A, c, rfl, hb4, hc4, hC4⟩
        have HZ := Lib.hid (And.intro hb4 (And.intro hc4 hC4))
        clear hb4 hc4 hC4
        go_wp2_with fail
        go_ret2
        exact ⟨HX3.out.trans (HZ.out.1.mono HX3.out.size), .inr ⟨m, A, c, ⟨HV.out.1, HGD.out, HV.out.2.1, hh, HSM.out⟩, rfl, HZ.out.2.1, HZ.out.2.2⟩⟩
      · refine (c_Blocks_no HV.out.1 HV.out.2.1 hh (Kd.C_below HG.out.1 HX3.out) HG.out.2.1 (Kd.C_below HG.out.2.2.1 HX3.out) HG.out.2.2.2.1 (Kd.C_below HG.out.2.2.2.2.1 HX3.out) HG.out.2.2.2.2.2).mono ?_
        rintro ex w4 ⟨rfl, hb4⟩
        have HZ := Lib.hid hb4
        clear hb4
        go_wp2_with fail
        go_ret2
        exact ⟨HX3.out.trans (HZ.out.mono HX3.out.size), .inl rfl⟩
    · clear hgr
      go_wp2_with fail
      go_ret2
      exact ⟨HX3.out, .inl rfl⟩
  · go_wp2_with fail
    go_ret2
    exact ⟨HX.out.2, .inl rfl⟩
end
end Go.Proofs.Ytmfcefakpfbaoaa.PMatch
end
