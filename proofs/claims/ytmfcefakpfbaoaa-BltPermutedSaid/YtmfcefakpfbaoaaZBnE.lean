/- The walk of the statement BltPermuted. -/
import Derived.Test.YtmfcefakpfbaoaaZXBltPermuted
set_option linter.unusedVariables false
set_option linter.unusedSimpArgs false
namespace Go.Proofs.Ytmfcefakpfbaoaa.PMatch
open Go.RowKit Go.Proofs.YtmfcefakpfbaoaaW.PrintWords Go.Proofs.YtmfcefakpfbaoaaW.PrintLast Go.Proofs.YtmfcefakpfbaoaaW.PrintMore
open Blt (ints blocksB needsB levelsB)
theorem flat_at {α : Type} {f : List Nat → List α} {bl : List (List Nat)} {b i : Nat} {bb : List Nat} (h : bl[b]? = some bb) {x : α} (hx : (f bb)[i]? = some x) : ((bl.map f).flatten)[((bl.take b).map f).flatten.length + i]? = some x := by
  have e1 : bl = bl.take b ++ (bb :: bl.drop (b + 1)) := by
    have hb := (List.getElem?_eq_some_iff.1 h).1
    have := List.take_append_drop b bl
    rw [List.drop_eq_getElem_cons hb, (List.getElem?_eq_some_iff.1 h).2] at this
    exact this.symm
  have hi := (List.getElem?_eq_some_iff.1 hx).1
  generalize hT : bl.take b = T at e1
  rw [e1, List.map_append, List.flatten_append, List.getElem?_append_right (by omega), Nat.add_sub_cancel_left, List.map_cons, List.flatten_cons, List.getElem?_append_left hi]
  exact hx
theorem eqsP_at {bl : List (List Nat)} {b i : Nat} {bb : List Nat} (h : bl[b]? = some bb) (hi : i < bb.length) : (eqsP bl)[(eqsP (bl.take b)).length + i]? = some ((bb.getD i 0 : Nat) : Int) := by
  refine flat_at (f := ints) h ?_
  rw [ints, List.getElem?_map, List.getElem?_eq_getElem hi, List.getD_eq_getElem?_getD, List.getElem?_eq_getElem hi]; rfl
theorem usesP_at {m : List Int} {bl : List (List Nat)} {b i : Nat} {bb : List Nat} (h : bl[b]? = some bb) (hi : i < bb.length) : (usesP m bl)[(usesP m (bl.take b)).length + i]? = some ((usesOf m bb).getD i 0) := by
  refine flat_at (f := usesOf m) h ?_
  have : i < (usesOf m bb).length := by rw [usesOf_len]; exact hi
  rw [List.getD_eq_getElem?_getD, List.getElem?_eq_getElem this]; rfl
theorem lens_P {m : List Int} : ∀ bl : List (List Nat), (usesP m bl).length = (eqsP bl).length
  | [] => rfl
  | b :: bl => by
    have := lens_P (m := m) bl
    simp only [usesP, eqsP, List.map_cons, List.flatten_cons, List.length_append] at this ⊢
    rw [this, usesOf_len, ints_len]
theorem rd_some {l : List Int} {k : Nat} {x : Int} (h : l[k]? = some x) : k < l.length ∧ rd l k = x := by
  refine ⟨(List.getElem?_eq_some_iff.1 h).1, ?_⟩
  rw [rd, Int.toNat_natCast, List.getD_eq_getElem?_getD, h]; rfl
theorem usesOf_mem {m : List Int} {b : List Nat} {i : Nat} (hi : i < b.length) : ∃ e ∈ b, (usesOf m b).getD i 0 = rd m (e : Int) := by
  have h1 : i < (usesOf m b).length := by rw [usesOf_len]; exact hi
  have h2 : (usesOf m b).getD i 0 ∈ usesOf m b := by rw [List.getD_eq_getElem?_getD, List.getElem?_eq_getElem h1]; exact List.getElem_mem _
  generalize (usesOf m b).getD i 0 = x at h2
  rw [usesOf, List.mem_mergeSort, List.mem_map] at h2
  obtain ⟨e, he, h⟩ := h2
  exact ⟨e, he, h.symm⟩
section
variable {E : List ByteArray} {U : List S47} {J : List (List Int)}
variable {A0 : Option Addr} {c0 : Nat} {A1 : Option Addr} {c1 : Nat} {A2 : Option Addr} {c2 : Nat} {w : World}
theorem has_iff {m : List Int} (hv : Valid E U J) (hm : Matched E U J m) {n : Nat} (hn : n = E.length ↔ ∃ M, Perf E.length U.length J M) : Has E U m ↔ E.length = U.length ∧ n = E.length := by
  have ho := hv.out hm
  have h1 := match_full (N := E) (V := U) hv.gok rfl rfl (by have := hv.hE; omega) hm ho
  unfold Has
  rw [hn, ← h1]
  refine and_congr_right fun _ => ⟨fun h e he => ?_, fun h hmem => ?_⟩
  · rcases ho.row e he with h2 | ⟨⟨j, h2, h3⟩, _⟩
    · exact absurd (mem_rd.2 ⟨e, by rw [ho.len]; exact he, h2⟩) h
    · have := hv.gok.uses e he j h2; omega
  · obtain ⟨j, hj, h2⟩ := mem_rd.1 hmem
    have := h j (by rw [← ho.len]; exact hj)
    omega
set_option maxRecDepth 100000 in
set_option maxHeartbeats 4000000 in
theorem c_BltPermuted (h0 : Kd.C Kd.string w A0 E.length E) (hc0 : E.length ≤ c0) (h1 : Kd.C k47 w A1 U.length U) (hc1 : U.length ≤ c1)
    (h2 : Kd.C (Kd.slice 3 (Kd.int .i64)) w A2 J.length J) (hc2 : J.length ≤ c2) :
    Calls Try.prog 6 #[.agg #[.slice A0 E.length c0, .slice A1 U.length c1, .slice A2 J.length c2]] w fun e w' => e = .returned (.bool true) ∧ Below w.heap.size w w' := by
  have hb1 : Below w.heap.size w (w.alloc (.cells #[.slice A0 E.length c0, .slice A1 U.length c1, .slice A2 J.length c2] 26)) := (Below.refl _ _).alloc (Nat.le_refl _) _
  have hck := r_Check (c0 := c0) (c1 := c1) (c2 := c2) (Kd.C_below h0 hb1) (Kd.C_below h1 hb1) (Kd.C_below h2 hb1)
  have HC := Lib.hid hck
  have HG := Lib.hid (And.intro h0 (And.intro hc0 (And.intro h1 (And.intro hc1 (And.intro h2 hc2)))))
  have HB := Lib.hid hb1
  have hu26 := Try.underlying26
  have hu42 := Try.underlying42
  have hu47 := Try.underlying47
  have hs1 : (w.alloc (.cells #[.slice A0 E.length c0, .slice A1 U.length c1, .slice A2 J.length c2] 26)).heap.size = w.heap.size + 1 := by simp
  have HS := Lib.hid hs1
  clear h0 hc0 h1 hc1 h2 hc2 hb1 hck hs1
  go_enter Try.func6, Try.ntmps6
  go_wp2_with fail
  refine HC.out.mono ?_
  rintro ex w2 ⟨r, rfl, hr, hb2⟩
  rw [HS.out] at hb2
  have hcell : ∀ (i : Nat) (v : Value), #[Value.slice A0 E.length c0, .slice A1 U.length c1, .slice A2 J.length c2][i]? = some v → w2.cell? ⟨w.heap.size, i, none⟩ = some v := fun i v hv => (hb2.cell (by exact Nat.lt_succ_self _)).trans (by rw [World.cell?_alloc_at _ _ _ _ rfl]; exact hv)
  have g0 := hcell 0 _ rfl
  have g1 := hcell 1 _ rfl
  have g2 := hcell 2 _ rfl
  have HX := Lib.hid (And.intro hr (HB.out.trans (hb2.mono (Nat.le_succ _))))
  clear hr hb2 hcell
  by_cases hr0 : r = 0
  · subst hr0
    have hv := (HX.out.1 rfl).1
    have hEl := hv.hE
    have hUl := hv.hU
    obtain ⟨m, hm, ho⟩ := hv.matched
    have HV := Lib.hid (And.intro hv (And.intro hm ho))
    clear hv hm ho
    go_wp2_with fail
    refine (r_Great (E := E) (U := U) (J := J)).mono ?_
    rintro ex w3 ⟨rfl, hb3⟩
    have k0 := pw_cell_below hb3 g0
    have k1 := pw_cell_below hb3 g1
    have k2 := pw_cell_below hb3 g2
    have HX3 := Lib.hid (HX.out.2.trans (hb3.mono HX.out.2.size))
    clear hb3 g0 g1 g2
    cases hgr : greatI E.length U.length J.length
    · have hsm : E.length ≤ 14 ∧ U.length ≤ 14 := by
        unfold greatI at hgr
        simp only [Bool.or_eq_false_iff, Bool.and_eq_false_iff, decide_eq_false_iff_not] at hgr
        omega
      have hE14 := hsm.1
      have hU14 := hsm.2
      clear hgr hsm hEl hUl
      by_cases hh : Has E U m
      · go_wp2_with fail
        refine (c_Permute HV.out.1 HV.out.2.1 hh (Kd.C_below HG.out.1 HX3.out) HG.out.2.1 (Kd.C_below HG.out.2.2.1 HX3.out) HG.out.2.2.2.1 (Kd.C_below HG.out.2.2.2.2.1 HX3.out) HG.out.2.2.2.2.2).mono ?_
        rintro ex w4 ⟨A4, c4, B4, d4, rfl, hb4, hC4, hD4⟩
        have q0 := pw_cell_below hb4 k0
        have q1 := pw_cell_below hb4 k1
        have q2 := pw_cell_below hb4 k2
        have HX4 := Lib.hid (And.intro (HX3.out.trans (hb4.mono HX3.out.size)) (And.intro hC4 hD4))
        clear hb4 hC4 hD4 k0 k1 k2
        go_wp2_with fail
        refine (c_Rank HV.out.1 (Kd.C_below HG.out.1 HX4.out.1) HG.out.2.1 (Kd.C_below HG.out.2.2.1 HX4.out.1) HG.out.2.2.2.1 (Kd.C_below HG.out.2.2.2.2.1 HX4.out.1) HG.out.2.2.2.2.2).mono ?_
        rintro ex w5 ⟨n, rfl, hb5, hn⟩
        obtain ⟨hEU, hnE⟩ := (has_iff HV.out.1 HV.out.2.1 hn).1 hh
        subst hnE
        have k0 := pw_cell_below hb5 q0
        have k1 := pw_cell_below hb5 q1
        have k2 := pw_cell_below hb5 q2
        have HX5 := Lib.hid (And.intro (HX4.out.1.trans (hb5.mono HX4.out.1.size)) (And.intro (Kd.C_below HX4.out.2.1 hb5) (Kd.C_below HX4.out.2.2 hb5)))
        have HHU := Lib.hid (And.intro hEU hh)
        have hEUi : ((E.length : Int) == (U.length : Int)) = true := by rw [hEU]; exact beq_self_eq_true _
        have hEUb : (E.length == U.length) = true := by rw [hEU]; exact beq_self_eq_true _
        clear hb5 hn hEU hh q0 q1 q2
        go_wp2_with fail
        refine (c_Blocks HV.out.1 HV.out.2.1 HHU.out.2 (Kd.C_below HG.out.1 HX5.out.1) HG.out.2.1 (Kd.C_below HG.out.2.2.1 HX5.out.1) HG.out.2.2.2.1 (Kd.C_below HG.out.2.2.2.2.1 HX5.out.1) HG.out.2.2.2.2.2).mono ?_
        rintro ex w6 ⟨A6, c6, rfl, hb6, hc6, hC6⟩
        have q0 := pw_cell_below hb6 k0
        have q1 := pw_cell_below hb6 k1
        have q2 := pw_cell_below hb6 k2
        obtain ⟨bl, hbl⟩ : ∃ bl, bl = blocksB E.length (ndB J m) := ⟨_, rfl⟩
        have hC5 := HX5.out.2.1
        have hD5 := HX5.out.2.2
        rw [← hbl] at hC5 hD5 hC6
        rw [← hbl]
        have hT12 := lens_P (m := m) bl
        have hmxT := Kd.C_max hC5
        have hmxB := Kd.C_max hC6
        obtain ⟨T1, hT1⟩ : ∃ T1, T1 = (eqsP bl).length := ⟨_, rfl⟩
        rw [hT12] at hD5 ⊢
        rw [← hT1] at hC5 hD5 hmxT ⊢
        have H6 := Lib.hid (And.intro (HX5.out.1.trans (hb6.mono HX5.out.1.size)) (And.intro (Kd.C_below hC5 hb6) (And.intro (Kd.C_below hD5 hb6) (And.intro hC6 (And.intro hbl (And.intro hT1 hT12))))))
        have hbs : ∀ (b : Nat) bb, bl[b]? = some bb → ∀ e ∈ bb, e < E.length := fun b bb hb => by
          rw [hbl] at hb
          exact (Blt.blocksB_spec).lt b bb hb
        have HBS := Lib.hid hbs
        have hns : ∀ e : Nat, e < E.length → 0 ≤ rd m e ∧ rd m e < U.length := fun e he => by
          have ho := HV.out.2.2
          rcases ho.row e he with h4 | ⟨⟨j, hj, h5⟩, _⟩
          · exact absurd (mem_rd.2 ⟨e, by rw [ho.len]; exact he, h4⟩) HHU.out.2.2
          · have h6 := HV.out.1.gok.uses e he j hj
            rw [h5] at h6
            exact h6
        have HNS := Lib.hid hns
        clear hb6 hc6 hC6 hC5 hD5 hbl hT1 hT12 hbs hns k0 k1 k2
        go_wp2_with fail
        go_loopw [12, 11] (fun v x W => ∃ b T : Nat, v = .int .i64 b ∧ b ≤ bl.length ∧ x = .int .i64 T ∧ T ≤ T1 ∧ T = (eqsP (bl.take b)).length ∧ Below w6.heap.size w6 W) (fun v _ _ => bl.length - (intOf v).toNat)
        case atStart => exact ⟨0, 0, rfl, Nat.zero_le _, rfl, Nat.zero_le _, rfl, Below.refl _ _⟩
        case round =>
          obtain ⟨b, T, rfl, hb, rfl, hT, hTe, hbw⟩ := hrel
          obtain ⟨wo, rfl⟩ : ∃ x, x = wr := ⟨_, rfl⟩
          have HW := Lib.hid (And.intro hTe hbw)
          clear hTe hbw
          by_cases hbl : b < bl.length
          · as_aux_lemma =>
              have hbl' : (b : Int) < (bl.length : Int) := by omega
              have hb0 : (0 : Int) ≤ (b : Int) := by omega
              have hgb : bl[b]? = some (bl.getD b []) := by rw [List.getD_eq_getElem?_getD, List.getElem?_eq_getElem hbl]; rfl
              have hmap : (bl.map (partOf E U m)).getD b ([], []) = partOf E U m (bl.getD b []) := by rw [List.getD_eq_getElem?_getD, List.getElem?_map, hgb]; rfl
              obtain ⟨ad, Ax, cx, Ay, cy, hA, ax0, ay0, hCx, hCy⟩ := at_part H6.out.2.2.2.1 b hbl
              rw [hmap] at ax0 ay0 hCx hCy
              obtain ⟨bb, hbb⟩ : ∃ bb, bb = bl.getD b [] := ⟨_, rfl⟩
              rw [← hbb] at ax0 ay0 hCx hCy hgb
              rw [show (partOf E U m bb).1 = bb.map fun e => E.getD e ByteArray.empty from rfl, List.length_map] at ax0 hCx
              rw [show (partOf E U m bb).2 = (usesOf m bb).map fun u => rd_T47 U u from rfl, List.length_map, usesOf_len] at ay0 hCy
              have hTn : T + bb.length ≤ T1 := by
                by_cases h0 : bb.length = 0
                · omega
                · have h1 := (rd_some (eqsP_at hgb (i := bb.length - 1) (by omega))).1
                  rw [← H6.out.2.2.2.2.2.1, ← HW.out.1] at h1
                  omega
              have hbbm := Kd.C_max hCx
              have hnx : (eqsP (bl.take (b + 1))).length = T + bb.length := by rw [ints_flat hgb, List.length_append, ints_len, HW.out.1]
              have HD := Lib.hid (And.intro hgb (And.intro hCx (And.intro hCy (And.intro ax0 (And.intro ay0 hnx)))))
              have z0 := pw_cell_below HW.out.2 ax0
              subst hA
              clear hgb hCx hCy hbb hmap ay0 ax0 hnx
              go_wp2_with fail
              go_loopw [13, 11] (fun v x W => ∃ i : Nat, v = .int .i64 i ∧ i ≤ bb.length ∧ x = .int .i64 ((T + i : Nat) : Int) ∧ Below w6.heap.size w6 W) (fun v _ _ => bb.length - (intOf v).toNat)
              case atStart => exact ⟨0, rfl, Nat.zero_le _, rfl, HW.out.2⟩
              case round =>
                obtain ⟨i, rfl, hi, rfl, hbi⟩ := hrel
                obtain ⟨wi, rfl⟩ : ∃ x, x = wr := ⟨_, rfl⟩
                have HI := Lib.hid hbi
                have ax0 := pw_cell_below hbi HD.out.2.2.2.1
                have ay0 := pw_cell_below hbi HD.out.2.2.2.2.1
                clear hbi z0
                obtain ⟨at_, hat⟩ : ∃ at_, at_ = T + i := ⟨_, rfl⟩
                rw [← hat]
                by_cases hil : i < bb.length
                · as_aux_lemma =>
                    have hil' : (i : Int) < (bb.length : Int) := by omega
                    have hi0 : (0 : Int) ≤ (i : Int) := by omega
                    have ha1 : at_ < T1 := by omega
                    have ha0 : (0 : Int) ≤ (at_ : Int) := by omega
                    have ha2 : (at_ : Int) < (T1 : Int) := by omega
                    have hge : decide (T1 ≤ at_) = false := by rw [decide_eq_false_iff_not]; omega
                    obtain ⟨e, he⟩ : ∃ e, e = bb.getD i 0 := ⟨_, rfl⟩
                    have hem : e ∈ bb := by rw [he, List.getD_eq_getElem?_getD, List.getElem?_eq_getElem hil]; exact List.getElem_mem _
                    have heE : e < E.length := HBS.out b bb HD.out.1 e hem
                    have he0 : (0 : Int) ≤ (e : Int) := by omega
                    have heE' : (e : Int) < (E.length : Int) := by omega
                    have hen : decide ((e : Int) < 0) = false := by rw [decide_eq_false_iff_not]; omega
                    have hege : decide (E.length ≤ e) = false := by rw [decide_eq_false_iff_not]; omega
                    obtain ⟨f, hfm, hfu⟩ := usesOf_mem (m := m) hil
                    have hfb := HNS.out f (HBS.out b bb HD.out.1 f hfm)
                    rw [← hfu] at hfb
                    obtain ⟨u, hu⟩ : ∃ u : Nat, (usesOf m bb).getD i 0 = u := ⟨((usesOf m bb).getD i 0).toNat, by omega⟩
                    rw [hu] at hfb
                    have huU : u < U.length := by omega
                    have hu0 : (0 : Int) ≤ (u : Int) := by omega
                    have huU' : (u : Int) < (U.length : Int) := by omega
                    have hun : decide ((u : Int) < 0) = false := by rw [decide_eq_false_iff_not]; omega
                    have huge : decide (U.length ≤ u) = false := by rw [decide_eq_false_iff_not]; omega
                    -- the lists
                    obtain ⟨aP, hAP, zP⟩ := Kd.at_int (Kd.C_below H6.out.2.1 HI.out) (at_ : Int) ha0 ha2
                    obtain ⟨aQ, hAQ, zQ⟩ := Kd.at_int (Kd.C_below H6.out.2.2.1 HI.out) (at_ : Int) ha0 ha2
                    have hP := (rd_some (eqsP_at HD.out.1 hil)).2
                    have hQ := (rd_some (usesP_at (m := m) HD.out.1 hil)).2
                    rw [← HW.out.1, ← hat, ← he] at hP
                    rw [lens_P, ← HW.out.1, ← hat, hu] at hQ
                    rw [Int.toNat_natCast, hP] at zP
                    rw [Int.toNat_natCast, hQ] at zQ
                    -- the graph's
                    have y0 := pw_cell_below HI.out q0
                    have y1 := pw_cell_below HI.out q1
                    have hbw := H6.out.1.trans (HI.out.mono H6.out.1.size)
                    obtain ⟨aE, hAE, zE⟩ := Kd.at_string (Kd.C_below HG.out.1 hbw) (e : Int) he0 heE'
                    rw [Int.toNat_natCast] at zE
                    obtain ⟨aV, hAV, v0, v1, v2⟩ := at_T47 (Kd.C_below HG.out.2.2.1 hbw) (u : Int) hu0 huU'
                    rw [Int.toNat_natCast] at v0 v1 v2
                    -- the part's
                    obtain ⟨aN, hAN, zN⟩ := Kd.at_string (Kd.C_below HD.out.2.1 HI.out) (i : Int) hi0 hil'
                    have hnm : rdOf ByteArray.empty (bb.map fun e => E.getD e ByteArray.empty) (i : Int) = rdOf ByteArray.empty E (e : Int) := by
                      rw [rdOf, rdOf, Int.toNat_natCast, Int.toNat_natCast, he, List.getD_eq_getElem?_getD, List.getElem?_map, List.getElem?_eq_getElem hil, List.getD_eq_getElem?_getD (l := bb), List.getElem?_eq_getElem hil]; rfl
                    rw [Int.toNat_natCast, hnm] at zN
                    obtain ⟨aM, hAM, m0, m1, m2⟩ := at_T47 (Kd.C_below HD.out.2.2.1 HI.out) (i : Int) hi0 hil'
                    have hul : i < (usesOf m bb).length := by rw [usesOf_len]; exact hil
                    have hus : rd_T47 ((usesOf m bb).map fun u => rd_T47 U u) (i : Int) = rd_T47 U (u : Int) := by
                      rw [rd_T47, Int.toNat_natCast, ← hu, List.getD_eq_getElem?_getD, List.getElem?_map, List.getElem?_eq_getElem hul, List.getD_eq_getElem?_getD (l := usesOf m bb), List.getElem?_eq_getElem hul]; rfl
                    rw [Int.toNat_natCast, hus] at m0 m1 m2
                    obtain ⟨nm, hnme⟩ : ∃ nm, nm = rdOf ByteArray.empty E (e : Int) := ⟨_, rfl⟩
                    obtain ⟨y, hy⟩ : ∃ y, y = rd_T47 U (u : Int) := ⟨_, rfl⟩
                    rw [← hnme] at zE zN
                    rw [← hy] at v0 v1 v2 m0 m1 m2
                    subst hAP hAQ hAE hAV hAN hAM
                    have HT := Lib.hid hat
                    clear hnme hy hus hnm hP hQ hu hfu hfm hfb he hem hbw hul hat
                    go_wp2_with fail
                    go_quiet (fail)
                    go_wp2_with fail
                    exact ⟨⟨i + 1, by rw [Int.natCast_add]; rfl, by omega, by rw [HT.out]; rfl, pw_below_drewN HI.out _⟩, by simp [intOf]; omega⟩
                · have hil' : ¬ (i : Int) < (bb.length : Int) := by omega
                  have hie : i = bb.length := by omega
                  go_wp2_with fail
                  exact ⟨⟨b + 1, at_, by rw [Int.natCast_add]; rfl, by omega, rfl, by omega, by rw [HD.out.2.2.2.2.2]; omega, HI.out⟩, by simp [intOf]; omega⟩
          · have hbl' : ¬ (b : Int) < (bl.length : Int) := by omega
            have hbe : b = bl.length := by omega
            have hTT : T = T1 := by rw [HW.out.1, hbe, List.take_length, H6.out.2.2.2.2.2.1]
            subst hTT
            have HB7 := Lib.hid (H6.out.1.trans (HW.out.2.mono H6.out.1.size))
            clear hbe
            go_wp2_with fail
            refine c_awake.mono ?_
            rintro ex w7 ⟨rfl, hb7⟩
            have HX7 := Lib.hid (HB7.out.trans (hb7.mono HB7.out.size))
            clear hb7
            go_wp2_with fail
            go_ret
            exact ⟨rfl, HX7.out⟩
      · go_wp2_with fail
        refine (c_Permute_no HV.out.1 HV.out.2.1 hh (Kd.C_below HG.out.1 HX3.out) HG.out.2.1 (Kd.C_below HG.out.2.2.1 HX3.out) HG.out.2.2.2.1 (Kd.C_below HG.out.2.2.2.2.1 HX3.out) HG.out.2.2.2.2.2).mono ?_
        rintro ex w4 ⟨rfl, hb4⟩
        have q0 := pw_cell_below hb4 k0
        have q1 := pw_cell_below hb4 k1
        have q2 := pw_cell_below hb4 k2
        have HX4 := Lib.hid (HX3.out.trans (hb4.mono HX3.out.size))
        clear hb4 k0 k1 k2
        go_wp2_with fail
        refine (c_Rank HV.out.1 (Kd.C_below HG.out.1 HX4.out) HG.out.2.1 (Kd.C_below HG.out.2.2.1 HX4.out) HG.out.2.2.2.1 (Kd.C_below HG.out.2.2.2.2.1 HX4.out) HG.out.2.2.2.2.2).mono ?_
        rintro ex w5 ⟨n, rfl, hb5, hn⟩
        have hno := fun h => hh ((has_iff HV.out.1 HV.out.2.1 hn).2 h)
        have k0 := pw_cell_below hb5 q0
        have k1 := pw_cell_below hb5 q1
        have HX5 := Lib.hid (HX4.out.trans (hb5.mono HX4.out.size))
        clear hb5 hn hh q0 q1 q2
        by_cases hEU : E.length = U.length
        · as_aux_lemma =>
            have hnE : ¬ n = E.length := fun h => hno ⟨hEU, h⟩
            have hEUb : (E.length == U.length) = true := by rw [hEU]; exact beq_self_eq_true _
            have hnEb : (n == E.length) = false := beq_eq_false_iff_ne.2 hnE
            have hEUi : ((E.length : Int) == (U.length : Int)) = true := by rw [hEU]; exact beq_self_eq_true _
            have hnEi : ((n : Int) == (E.length : Int)) = false := beq_eq_false_iff_ne.2 (by omega)
            clear hno hEU
            go_wp2_with fail
            refine c_awake.mono ?_
            rintro ex w6 ⟨rfl, hb6⟩
            have HX6 := Lib.hid (HX5.out.trans (hb6.mono HX5.out.size))
            clear hb6
            go_wp2_with fail
            go_ret
            exact ⟨rfl, HX6.out⟩
        · have hEUb : (E.length == U.length) = false := beq_eq_false_iff_ne.2 hEU
          have hEUi : ((E.length : Int) == (U.length : Int)) = false := beq_eq_false_iff_ne.2 (by omega)
          clear hno
          go_wp2_with fail
          refine c_awake.mono ?_
          rintro ex w6 ⟨rfl, hb6⟩
          have HX6 := Lib.hid (HX5.out.trans (hb6.mono HX5.out.size))
          clear hb6
          go_wp2_with fail
          go_ret
          exact ⟨rfl, HX6.out⟩
    · clear hgr
      go_wp2_with fail
      refine c_awake.mono ?_
      rintro ex w6 ⟨rfl, hb6⟩
      have HX6 := Lib.hid (HX3.out.trans (hb6.mono HX3.out.size))
      clear hb6
      go_wp2_with fail
      go_ret
      exact ⟨rfl, HX6.out⟩
  · go_wp2_with fail
    refine c_awake.mono ?_
    rintro ex w6 ⟨rfl, hb6⟩
    have HX6 := Lib.hid (HX.out.2.trans (hb6.mono HX.out.2.size))
    clear hb6
    go_wp2_with fail
    go_ret
    exact ⟨rfl, HX6.out⟩
end
end Go.Proofs.Ytmfcefakpfbaoaa.PMatch
