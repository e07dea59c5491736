/- The walk of the statement BltBefore. -/
import Derived.Test.YtmfcefakpfbaoaaZXBltBefore
set_option linter.unusedVariables false
set_option linter.unusedSimpArgs false
namespace Go.Proofs.Ytmfcefakpfbaoaa.PMatch
open Go.RowKit Go.Proofs.YtmfcefakpfbaoaaW.PrintWords Go.Proofs.YtmfcefakpfbaoaaW.PrintLast Go.Proofs.YtmfcefakpfbaoaaW.PrintMore
open Blt (ints blocksB needsB levelsB)
theorem c_inN {A : Option Addr} {c : Nat} {l : List Nat} {x : Nat} {w : World} (h : Kd.C (Kd.int .i64) w A l.length (ints l)) : Calls Try.prog 14 #[.slice A l.length c, .int .i64 (x : Int)] w fun e w' => e = .returned (.bool (decide (x ∈ l))) ∧ w' = w := by
  have h2 := c_in (c := c) (x := (x : Int)) (l := ints l) (w := w) (A := A) (by rw [ints_len]; exact h)
  rw [ints_len] at h2
  refine h2.mono ?_
  rintro e w' ⟨rfl, rfl⟩
  refine ⟨?_, rfl⟩
  have : decide ((x : Int) ∈ ints l) = decide (x ∈ l) := decide_eq_decide.2 mem_ints
  rw [this]
theorem rises_at {L : List Nat} (h : L.Pairwise (· < ·)) {i j : Nat} (hij : i < j) (hj : j < L.length) : L.getD i 0 < L.getD j 0 := by
  rw [List.getD_eq_getElem?_getD, List.getElem?_eq_getElem (by omega), List.getD_eq_getElem?_getD, List.getElem?_eq_getElem hj]
  exact List.pairwise_iff_getElem.1 h i j (by omega) hj hij
theorem getD_inj2 {L : List Nat} (h : L.Pairwise (· < ·)) {i j : Nat} (hi : i < L.length) (hj : j < L.length) (e : L.getD i 0 = L.getD j 0) : i = j := by
  rcases Nat.lt_trichotomy i j with h1 | h1 | h1
  · have := rises_at h h1 hj; omega
  · exact h1
  · have := rises_at h h1 hi; omega
section
variable {E : List ByteArray} {U : List S47} {J : List (List Int)}
variable {A0 : Option Addr} {c0 : Nat} {A1 : Option Addr} {c1 : Nat} {A2 : Option Addr} {c2 : Nat} {w : World}
set_option maxRecDepth 100000 in
set_option maxHeartbeats 4000000 in
theorem c_BltBefore {a : Int} (h0 : Kd.C Kd.string w A0 E.length E) (hc0 : E.length ≤ c0) (h1 : Kd.C k47 w A1 U.length U) (hc1 : U.length ≤ c1)
    (h2 : Kd.C (Kd.slice 3 (Kd.int .i64)) w A2 J.length J) (hc2 : J.length ≤ c2) (ha : (Lit.int .u8 a).wf = true) :
    Calls Try.prog 7 #[.agg #[.slice A0 E.length c0, .slice A1 U.length c1, .slice A2 J.length c2], .int .u8 a] w fun e w' => e = .returned (.bool true) ∧ Below w.heap.size w w' := by
  have ha2 : 0 ≤ a ∧ a ≤ 255 := by
    have z : (decide (IntKind.u8.min ≤ a) && decide (a ≤ IntKind.u8.max)) = true := ha
    rw [Bool.and_eq_true, decide_eq_true_eq, decide_eq_true_eq] at z
    exact z
  have hb1 : Below w.heap.size w (w.alloc (.cells #[.slice A0 E.length c0, .slice A1 U.length c1, .slice A2 J.length c2] 26)) := (Below.refl _ _).alloc (Nat.le_refl _) _
  have hsv := c_solved (c0 := c0) (c1 := c1) (c2 := c2) (Kd.C_below h0 hb1) hc0 (Kd.C_below h1 hb1) hc1 (Kd.C_below h2 hb1) hc2
  have HC := Lib.hid hsv
  have hmxU := Kd.C_max h1
  have HG := Lib.hid (And.intro h0 (And.intro hc0 (And.intro h1 (And.intro hc1 (And.intro h2 hc2)))))
  have HB := Lib.hid hb1
  have hu26 := Try.underlying26
  have hu47 := Try.underlying47
  have hs1 : (w.alloc (.cells #[.slice A0 E.length c0, .slice A1 U.length c1, .slice A2 J.length c2] 26)).heap.size = w.heap.size + 1 := by simp
  have HS := Lib.hid hs1
  clear h0 hc0 h1 hc1 h2 hc2 hb1 hsv hs1 ha
  go_enter Try.func7, Try.ntmps7
  go_wp2_with fail
  refine HC.out.mono ?_
  rintro ex w2 ⟨hb2, hor⟩
  rw [HS.out] at hb2
  have hcell : ∀ (i : Nat) (v : Value), #[Value.slice A0 E.length c0, .slice A1 U.length c1, .slice A2 J.length c2][i]? = some v → w2.cell? ⟨w.heap.size, i, none⟩ = some v := fun i v hv => (hb2.cell (by exact Nat.lt_succ_self _)).trans (by rw [World.cell?_alloc_at _ _ _ _ rfl]; exact hv)
  have g0 := hcell 0 _ rfl
  have g1 := hcell 1 _ rfl
  have g2 := hcell 2 _ rfl
  have HX := Lib.hid (HB.out.trans (hb2.mono (Nat.le_succ _)))
  clear hb2 hcell
  rcases hor with rfl | ⟨m, A, c, hs, rfl, hc, hC⟩
  · go_wp2_with fail
    refine c_awake.mono ?_
    rintro ex w3 ⟨rfl, hb3⟩
    have HX3 := Lib.hid (HX.out.trans (hb3.mono HX.out.size))
    clear hb3
    go_wp2_with fail
    go_ret
    exact ⟨rfl, HX3.out⟩
  · by_cases hU0 : U.length = 0
    · have hU0' : ((U.length : Int) == 0) = true := by rw [hU0]; rfl
      rw [hU0] at g1
      clear hs hC hU0'
      go_wp2_with fail
      refine c_awake.mono ?_
      rintro ex w3 ⟨rfl, hb3⟩
      have HX3 := Lib.hid (HX.out.trans (hb3.mono HX.out.size))
      clear hb3
      go_wp2_with fail
      go_ret
      exact ⟨rfl, HX3.out⟩
    · have hU1 : ((U.length : Int) == 0) = false := beq_eq_false_iff_ne.2 (by omega)
      have hU2 : ¬ (U.length : Int) = 0 := by omega
      have HV := Lib.hid (And.intro hs (And.intro hc hC))
      have hEl : E.length ≤ 14 := hs.small
      have hUl : U.length ≤ 14 := by rw [← hs.has.1]; exact hEl
      clear hs hc hC hU0
      go_wp2_with fail
      refine (c_blocks_of HV.out.1 (Kd.C_below HG.out.1 HX.out) (Kd.C_below HG.out.2.2.1 HX.out) HV.out.2.2).mono ?_
      rintro ex w3 ⟨g7, g8, F, G, rfl, hb3, r7, r8, hF, hGG⟩
      have k0 := pw_cell_below hb3 g0
      have k1 := pw_cell_below hb3 g1
      have k2 := pw_cell_below hb3 g2
      have HX3 := Lib.hid (And.intro (HX.out.trans (hb3.mono HX.out.size)) (And.intro r8 hGG))
      clear hb3 r7 r8 hF hGG g0 g1 g2
      obtain ⟨u, hue⟩ : ∃ u : Nat, u = a.toNat % U.length := ⟨_, rfl⟩
      have hul : u < U.length := by rw [hue]; exact Nat.mod_lt _ (by omega)
      have hmod : a % (U.length : Int) = (u : Int) := by
        rw [hue, Int.natCast_emod, Int.toNat_of_nonneg ha2.1]
      have hu0 : (0 : Int) ≤ (u : Int) := by omega
      have hui : (u : Int) < (U.length : Int) := by omega
      clear hue
      obtain ⟨f, hf, hmf⟩ := HV.out.1.sur hu0 hui
      obtain ⟨aU, hAU, y0, y1, y2⟩ := at_T47 (Kd.C_below HG.out.2.2.1 HX3.out.1) (u : Int) hu0 hui
      rw [Int.toNat_natCast] at y0 y1 y2
      obtain ⟨y, hy⟩ : ∃ y, y = rd_T47 U (u : Int) := ⟨_, rfl⟩
      rw [← hy] at y0 y1 y2
      have HE := Lib.hid (c_Before (w := w3.drew) (A0 := A0) (c0 := c0) (A1 := A1) (c1 := c1) (A2 := A2) (c2 := c2) HV.out.1 hul hf hmf (show y = U.getD u z47 by rw [hy, rd_T47, Int.toNat_natCast]) (Kd.C_drew (Kd.C_below HG.out.1 HX3.out.1)) HG.out.2.1 (Kd.C_drew (Kd.C_below HG.out.2.2.1 HX3.out.1)) HG.out.2.2.2.1 (Kd.C_drew (Kd.C_below HG.out.2.2.2.2.1 HX3.out.1)) HG.out.2.2.2.2.2)
      have HMF := Lib.hid hmf
      subst hAU
      clear hy hmf
      go_wp2_with fail
      refine OrdL.begin_ (S := fun W => W.cell? ⟨w.heap.size, 0, none⟩ = some (.slice A0 E.length c0) ∧ W.cell? ⟨w.heap.size, 1, none⟩ = some (.slice (some aU) U.length c1) ∧ W.cell? ⟨w.heap.size, 2, none⟩ = some (.slice A2 J.length c2) ∧ W.cell? (aU.add (u * 3)) = some (.string y.f0) ∧ W.cell? ⟨(aU.add (u * 3)).block, (aU.add (u * 3)).off + 1, none⟩ = some (.int .i64 y.f1) ∧ W.cell? ⟨(aU.add (u * 3)).block, (aU.add (u * 3)).off + 2, none⟩ = some (.bool y.f2)) [] [11] (by kernel_rfl) ?_ (fun hHeld => ?_)
      focus ((try dsimp only); exact ⟨k0, k1, k2, y0, y1, y2⟩)
      refine OrdL.take (i := 0) (d := (some 46)) (v := ?_) rfl rfl (by kernel_rfl) (by kernel_rfl) (by kernel_rfl) (by kernel_rfl) (fun _ _ _ h => h) (by assumption) ⟨by rfl, ?_⟩ ?_
      rotate_left
      focus (intro w hSw; (try dsimp only at hSw); go_simp; try with_reducible rfl)
      (try simp only [Act.put, List.getElem_toArray, List.getElem_cons_zero, List.getElem_cons_succ, List.setIfInBounds_toArray, List.set_cons_zero, List.set_cons_succ])
      refine OrdL.take (i := 1) (d := (some 47)) (v := ?_) rfl rfl (by kernel_rfl) (by kernel_rfl) (by kernel_rfl) (by kernel_rfl) (fun _ _ _ h => h) (by assumption) ⟨by rfl, ?_⟩ ?_
      rotate_left
      focus (intro w hSw; (try dsimp only at hSw); go_simp; try with_reducible rfl)
      (try simp only [Act.put, List.getElem_toArray, List.getElem_cons_zero, List.getElem_cons_succ, List.setIfInBounds_toArray, List.set_cons_zero, List.set_cons_succ])
      refine OrdL.take (i := 2) (d := (some 48)) (v := ?_) rfl rfl (by kernel_rfl) (by kernel_rfl) (by kernel_rfl) (by kernel_rfl) (fun _ _ _ h => h) (by assumption) ⟨by rfl, ?_⟩ ?_
      rotate_left
      focus (intro w hSw; (try dsimp only at hSw); go_simp; try with_reducible rfl)
      (try simp only [Act.put, List.getElem_toArray, List.getElem_cons_zero, List.getElem_cons_succ, List.setIfInBounds_toArray, List.set_cons_zero, List.set_cons_succ])
      refine OrdL.take (i := 3) (d := (some 49)) (v := ?_) rfl rfl (by kernel_rfl) (by kernel_rfl) (by kernel_rfl) (by kernel_rfl) (fun _ _ _ h => h) (by assumption) ⟨by rfl, ?_⟩ ?_
      rotate_left
      focus (intro w hSw; (try dsimp only at hSw); go_simp; try with_reducible rfl)
      (try simp only [Act.put, List.getElem_toArray, List.getElem_cons_zero, List.getElem_cons_succ, List.setIfInBounds_toArray, List.set_cons_zero, List.set_cons_succ])
      refine OrdL.take (i := 4) (d := (some 50)) (v := ?_) rfl rfl (by kernel_rfl) (by kernel_rfl) (by kernel_rfl) (by kernel_rfl) (fun _ _ _ h => h) (by assumption) ⟨by rfl, ?_⟩ ?_
      rotate_left
      focus (intro w hSw; (try dsimp only at hSw); go_simp; try with_reducible rfl)
      (try simp only [Act.put, List.getElem_toArray, List.getElem_cons_zero, List.getElem_cons_succ, List.setIfInBounds_toArray, List.set_cons_zero, List.set_cons_succ])
      refine OrdL.take (i := 5) (d := (some 51)) (v := ?_) rfl rfl (by kernel_rfl) (by kernel_rfl) (by kernel_rfl) (by kernel_rfl) (fun _ _ _ h => h) (by assumption) ⟨by rfl, ?_⟩ ?_
      rotate_left
      focus (intro w hSw; (try dsimp only at hSw); go_simp; try with_reducible rfl)
      (try simp only [Act.put, List.getElem_toArray, List.getElem_cons_zero, List.getElem_cons_succ, List.setIfInBounds_toArray, List.set_cons_zero, List.set_cons_succ])
      refine OrdL.step (i := 6) rfl (by decide) (by kernel_rfl) (fun Kc hKc => ?_)
      simp only [List.getElem_toArray, List.getElem_cons_zero, List.getElem_cons_succ]
      go_simp
      go_at_call 21
      refine HE.out.mono ?_
      rintro ex w4 ⟨A4, c4, L, rfl, hb4, hc4, hC4, hbef⟩
      have HX4 := Lib.hid (And.intro hb4 (And.intro hc4 (And.intro hC4 hbef)))
      clear hb4 hc4 hC4 hbef
      go_wp2_with fail
      refine hKc.out _ _ ?_ (fun hHeld => ?_)
      focus ((try dsimp only); exact ⟨pw_cell_below HX4.out.1 (show w3.drew.cell? _ = _ from k0), pw_cell_below HX4.out.1 (show w3.drew.cell? _ = _ from k1), pw_cell_below HX4.out.1 (show w3.drew.cell? _ = _ from k2), pw_cell_below HX4.out.1 (show w3.drew.cell? _ = _ from y0), pw_cell_below HX4.out.1 (show w3.drew.cell? _ = _ from y1), pw_cell_below HX4.out.1 (show w3.drew.cell? _ = _ from y2)⟩)
      clear hKc Kc
      (try simp only [Act.put, List.getElem_toArray, List.getElem_cons_zero, List.getElem_cons_succ, List.setIfInBounds_toArray, List.set_cons_zero, List.set_cons_succ])
      refine OrdL.take (i := 7) (d := (some 45)) (v := ?_) rfl rfl (by kernel_rfl) (by kernel_rfl) (by kernel_rfl) (by kernel_rfl) (fun _ _ _ h => h) (by assumption) ⟨by rfl, ?_⟩ ?_
      rotate_left
      focus (intro w hSw; (try dsimp only at hSw); go_simp; try with_reducible rfl)
      (try simp only [Act.put, List.getElem_toArray, List.getElem_cons_zero, List.getElem_cons_succ, List.setIfInBounds_toArray, List.set_cons_zero, List.set_cons_succ])
      refine OrdL.take (i := 8) (d := (some 53)) (v := ?_) rfl rfl (by kernel_rfl) (by kernel_rfl) (by kernel_rfl) (by kernel_rfl) (fun _ _ _ h => h) (by assumption) ⟨by rfl, ?_⟩ ?_
      rotate_left
      focus (intro w hSw; (try dsimp only at hSw); go_simp; try with_reducible rfl)
      (try simp only [Act.put, List.getElem_toArray, List.getElem_cons_zero, List.getElem_cons_succ, List.setIfInBounds_toArray, List.set_cons_zero, List.set_cons_succ])
      refine OrdL.take (i := 9) (d := (some 54)) (v := ?_) rfl rfl (by kernel_rfl) (by kernel_rfl) (by kernel_rfl) (by kernel_rfl) (fun _ _ _ h => h) (by assumption) ⟨by rfl, ?_⟩ ?_
      rotate_left
      focus (intro w hSw; (try dsimp only at hSw); go_simp; try with_reducible rfl)
      (try simp only [Act.put, List.getElem_toArray, List.getElem_cons_zero, List.getElem_cons_succ, List.setIfInBounds_toArray, List.set_cons_zero, List.set_cons_succ])
      refine OrdL.take (i := 10) (d := (some 10)) (v := ?_) rfl rfl (by kernel_rfl) (by kernel_rfl) (by kernel_rfl) (by kernel_rfl) (fun _ _ _ h => h) (by assumption) ⟨by rfl, ?_⟩ ?_
      rotate_left
      focus (intro w hSw; (try dsimp only at hSw); go_simp; try with_reducible rfl)
      (try simp only [Act.put, List.getElem_toArray, List.getElem_cons_zero, List.getElem_cons_succ, List.setIfInBounds_toArray, List.set_cons_zero, List.set_cons_succ])
      refine OrdL.last (i := 11) rfl (by decide) (by decide) (by kernel_rfl) (fun Kc hKc => ?_)
      simp only [List.getElem_toArray, List.getElem_cons_zero, List.getElem_cons_succ]
      go_simp
      refine hKc.out _ _ ?_
      clear hKc Kc
      (try simp only [Act.put, List.getElem_toArray, List.getElem_cons_zero, List.getElem_cons_succ, List.setIfInBounds_toArray, List.set_cons_zero, List.set_cons_succ])
      refine OrdL.done (by kernel_rfl) ?_ _
      have hb34 : Below w.heap.size w w4 := HX3.out.1.trans (((below_drew (Below.refl _ _)).trans (HX4.out.1.mono (by simp))).mono HX3.out.1.size)
      have hb4 : Below w3.heap.size w3 w4 := (below_drew (Below.refl _ _)).trans (HX4.out.1.mono (by simp))
      have q0 := pw_cell_below hb4 k0
      have q1 := pw_cell_below hb4 k1
      have q2 := pw_cell_below hb4 k2
      have H4 := Lib.hid (And.intro hb34 (HX3.out.2.1.below hb4))
      clear hb34 hb4 k0 k1 k2 y0 y1 y2 HE
      go_wp2_with fail
      refine (c_Needs HV.out.1.valid HV.out.1.matched HV.out.1.has (Kd.C_below HG.out.1 H4.out.1) HG.out.2.1 (Kd.C_below HG.out.2.2.1 H4.out.1) HG.out.2.2.2.1 (Kd.C_below HG.out.2.2.2.2.1 H4.out.1) HG.out.2.2.2.2.2).mono ?_
      rintro ex w5 ⟨A5, c5, rfl, hb5, hc5, hC5⟩
      have hbef := HX4.out.2.2.2
      have hL0 := hbef.pos
      have hlast := hbef.last
      have hmxL := Kd.C_max HX4.out.2.2.1
      obtain ⟨aL, hAL, hcL⟩ := Kd.at_int (Kd.C_below HX4.out.2.2.1 hb5) ((L.length : Int) - 1) (by omega) (by omega)
      rw [show ((L.length : Int) - 1) = ((L.length - 1 : Nat) : Int) by omega, Int.toNat_natCast, rd_int, hlast] at hcL
      subst hAL
      have hgu : G u = (blkI (blocksB E.length (ndB J m)) f : Nat) := by
        have := HX3.out.2.2 f hf
        rw [HMF.out, Int.toNat_natCast] at this
        exact this
      have hc8 := (H4.out.2.below hb5).cell u hul
      rw [hgu] at hc8
      have hlp : ((L.length : Int) - 1).toNat = L.length - 1 := by omega
      have hl0 : (0 : Int) ≤ (L.length : Int) - 1 := by omega
      have hl1 : (L.length : Int) - 1 < (L.length : Int) := by omega
      have hlz : ((L.length : Int) == 0) = false := beq_eq_false_iff_ne.2 (by omega)
      have hlz2 : ¬ (L.length : Int) = 0 := by omega
      obtain ⟨N, hN⟩ : ∃ N, N = (blocksB E.length (ndB J m)).length := ⟨_, rfl⟩
      obtain ⟨nl, hnl⟩ : ∃ nl, nl = needsB E.length (ndB J m) := ⟨_, rfl⟩
      obtain ⟨b0, hb0⟩ : ∃ b0, b0 = blkI (blocksB E.length (ndB J m)) f := ⟨_, rfl⟩
      rw [← hN, ← hnl] at hC5
      rw [← hb0] at hcL hc8 hlast
      rw [← hN, ← hnl, ← hb0] at hbef
      have H5 := Lib.hid (And.intro (H4.out.1.trans (hb5.mono H4.out.1.size)) (And.intro hbef (And.intro (Kd.C_below HX4.out.2.2.1 hb5) hC5)))
      have HNN := Lib.hid hN
      clear hb5 hc5 hC5 hbef q0 q1 q2 hgu hnl hb0 hlast
      rw [← hN]
      clear hN
      go_wp2_with fail
      go_quiet (fail)
      go_wp2_with fail
      obtain ⟨w6, hw6⟩ : ∃ x, x = w5.drewN nq := ⟨_, rfl⟩
      rw [← hw6]
      have hb56 : Below w5.heap.size w5 w6 := by rw [hw6]; exact pw_below_drewN (Below.refl _ _) _
      have H6 := Lib.hid (And.intro (H5.out.1.trans (hb56.mono H5.out.1.size)) (And.intro H5.out.2.1 (And.intro (Kd.C_below H5.out.2.2.1 hb56) (Kd.C_below H5.out.2.2.2 hb56))))
      clear hw6 hb56 hcL hc8
      go_loopw [14] (fun v W => ∃ i : Nat, v = .int .i64 i ∧ i ≤ L.length ∧ Below w6.heap.size w6 W) (fun v _ => L.length - (intOf v).toNat)
      case atStart => exact ⟨0, rfl, Nat.zero_le _, Below.refl _ _⟩
      case round =>
        obtain ⟨i, rfl, hi, hbw⟩ := hrel
        obtain ⟨wo, rfl⟩ : ∃ x, x = wr := ⟨_, rfl⟩
        have HW := Lib.hid (And.intro hbw (H6.out.1.trans (hbw.mono H6.out.1.size)))
        clear hbw
        by_cases hil : i < L.length
        · have hil' : (i : Int) < (L.length : Int) := by omega
          have hi0 : (0 : Int) ≤ (i : Int) := by omega
          obtain ⟨p, hpe⟩ : ∃ p, p = L.getD i 0 := ⟨_, rfl⟩
          have hpL : p ∈ L := by rw [hpe, List.getD_eq_getElem?_getD, List.getElem?_eq_getElem hil]; exact List.getElem_mem _
          have hpN : p < N := H6.out.2.1.lt p hpL
          have hatL : ∀ k : Nat, k < L.length → ∀ W, Below w6.heap.size w6 W → W.cell? (aL.add k) = some (.int .i64 ((L.getD k 0 : Nat) : Int)) := fun k hk W hbW => by
            obtain ⟨ad', hA', hc'⟩ := Kd.at_int (Kd.C_below H6.out.2.2.1 hbW) (k : Int) (by omega) (by omega)
            obtain rfl := Option.some.inj hA'
            rw [Int.toNat_natCast, rd_int] at hc'
            exact hc'
          have hp0 : (0 : Int) ≤ (p : Int) := by omega
          have hpN' : (p : Int) < (N : Int) := by omega
          obtain ⟨a6, B6, d6, hA6, hc6, hd6, hC6⟩ := at_L4 H6.out.2.2.2 (p : Int) hp0 hpN'
          subst hA6
          rw [Int.toNat_natCast, rd_ints, ints_len] at hc6
          rw [rd_ints, ints_len] at hC6
          have hrowk : ∀ k : Nat, k < L.length → ∃ B d, w6.cell? (a6.add (L.getD k 0)) = some (.slice B (nl.getD (L.getD k 0) []).length d) ∧ Kd.C (Kd.int .i64) w6 B (ints (nl.getD (L.getD k 0) [])).length (ints (nl.getD (L.getD k 0) [])) ∧ L.getD k 0 < N := fun k hk => by
            have hkL : L.getD k 0 ∈ L := by rw [List.getD_eq_getElem?_getD, List.getElem?_eq_getElem hk]; exact List.getElem_mem _
            have hkN := H6.out.2.1.lt _ hkL
            obtain ⟨a7, B7, d7, hA7, hc7, _, hC7⟩ := at_L4 H6.out.2.2.2 ((L.getD k 0 : Nat) : Int) (by omega) (by omega)
            obtain rfl := Option.some.inj hA7
            rw [Int.toNat_natCast, rd_ints, ints_len] at hc7
            rw [rd_ints] at hC7
            exact ⟨B7, d7, hc7, hC7, hkN⟩
          obtain ⟨nb, hnb⟩ : ∃ nb, nb = nl.getD p [] := ⟨_, rfl⟩
          rw [← hnb] at hc6 hC6
          have hmxn := Kd.C_max hC6
          have ko := hatL i hil wo HW.out.1
          rw [← hpe] at ko
          have HP := Lib.hid (And.intro hpe (And.intro hpL (And.intro hatL (And.intro hrowk (And.intro hnb (And.intro hc6 hC6))))))
          have hl2 : ¬ (L.length : Int) - 1 < 0 := by omega
          clear hpe hpL hatL hrowk hnb hC6 hd6 hc6
          go_wp2_with fail
          go_loopw [16, 15] (fun v x W => ∃ (k : Nat) (b : Bool), v = .int .i64 k ∧ k ≤ L.length ∧ x = .bool b ∧ Below w6.heap.size w6 W ∧ (b = true ↔ (i = L.length - 1 ∨ ∃ j, j < k ∧ p ∈ nl.getD (L.getD j 0) []))) (fun v _ _ => L.length - (intOf v).toNat)
          case atStart =>
            refine ⟨0, _, rfl, Nat.zero_le _, rfl, HW.out.1, ?_⟩
            rw [beq_iff_eq]
            constructor
            · intro h; exact .inl (by omega)
            · rintro (h | ⟨j, h, _⟩)
              · omega
              · omega
          case round =>
            obtain ⟨k, b, rfl, hk, rfl, hbk, hwant⟩ := hrel
            obtain ⟨wi, rfl⟩ : ∃ x, x = wr := ⟨_, rfl⟩
            have HK := Lib.hid (And.intro hbk hwant)
            clear hbk hwant ko
            by_cases hkl : k < L.length
            · have hkl' : (k : Int) < (L.length : Int) := by omega
              have hk0 : (0 : Int) ≤ (k : Int) := by omega
              cases b
              · have HNO := Lib.hid (show ¬ (i = L.length - 1 ∨ ∃ j, j < k ∧ p ∈ nl.getD (L.getD j 0) []) from fun h => by have h2 := HK.out.2.2 h; cases h2)
                have z1 := HP.out.2.2.1 k hkl wi HK.out.1
                have z2 := HP.out.2.2.1 i hil wi HK.out.1
                rw [← HP.out.1] at z2
                obtain ⟨Bk, dk, z3, hCk, hkN⟩ := HP.out.2.2.2.1 k hkl
                have z3 := pw_cell_below HK.out.1 z3
                obtain ⟨s, hs⟩ : ∃ s, s = L.getD k 0 := ⟨_, rfl⟩
                rw [← hs] at z1 z3 hCk hkN
                obtain ⟨ns, hns⟩ : ∃ ns, ns = nl.getD s [] := ⟨_, rfl⟩
                rw [← hns] at z3 hCk
                have hsi0 : (0 : Int) ≤ (s : Int) := by omega
                have hsi1 : (s : Int) < (N : Int) := by omega
                have HCK := Lib.hid (And.intro (Kd.C_below hCk HK.out.1) (And.intro hs hns))
                rw [ints_len] at HCK
                clear hCk hs hns
                go_wp2_with fail
                go_quiet ((go_at_call 14; refine (c_inN (l := ns) (x := p) (Kd.C_drewN HCK.out.1 _)).mono ?_; rintro e w' ⟨rfl, rfl⟩; exact ⟨rfl, _, rfl⟩))
                go_wp2_with fail
                refine ⟨⟨k + 1, _, by rw [Int.natCast_add]; rfl, by omega, rfl, pw_below_drewN HK.out.1 _, ?_⟩, by simp [intOf]; omega⟩
                rw [decide_eq_true_eq]
                constructor
                · intro h
                  exact .inr ⟨k, by omega, by rw [← HCK.out.2.1, ← HCK.out.2.2]; exact h⟩
                · rintro (h | ⟨j, h1, h2⟩)
                  · exact absurd (.inl h) HNO.out
                  · by_cases hjk : j < k
                    · exact absurd (.inr ⟨j, hjk, h2⟩) HNO.out
                    · obtain rfl : j = k := by omega
                      rw [← HCK.out.2.1, ← HCK.out.2.2] at h2
                      exact h2
              · have HYES := Lib.hid (HK.out.2.1 rfl)
                go_wp2_with fail
                go_quiet (fail)
                go_wp2_with fail
                refine ⟨⟨k + 1, true, by rw [Int.natCast_add]; rfl, by omega, rfl, pw_below_drewN HK.out.1 _, ⟨fun _ => ?_, fun _ => rfl⟩⟩, by simp [intOf]; omega⟩
                rcases HYES.out with h | ⟨j, h1, h2⟩
                · exact .inl h
                · exact .inr ⟨j, by omega, h2⟩
            · have hkl' : ¬ (k : Int) < (L.length : Int) := by omega
              have hbtrue : b = true := by
                refine HK.out.2.2 ?_
                rcases H6.out.2.1.wanted p HP.out.2.1 with h | ⟨q, h1, h2⟩
                · refine .inl (getD_inj2 H6.out.2.1.rises hil (by omega) ?_)
                  rw [H6.out.2.1.last, ← h]; exact HP.out.1.symm
                · obtain ⟨j, hj⟩ := List.getElem?_of_mem h1
                  have hjl := (List.getElem?_eq_some_iff.1 hj).1
                  exact .inr ⟨j, by omega, by rw [show L.getD j 0 = q by rw [List.getD_eq_getElem?_getD, hj]; rfl]; exact h2⟩
              subst hbtrue
              have z2 := HP.out.2.2.1 i hil wi HK.out.1
              rw [← HP.out.1] at z2
              have z6 := pw_cell_below HK.out.1 HP.out.2.2.2.2.2.1
              have HK2 := Lib.hid HK.out.1
              clear HK
              go_wp2_with fail
              go_loopw [17] (fun v W => ∃ k : Nat, v = .int .i64 k ∧ k ≤ nb.length ∧ Below w6.heap.size w6 W) (fun v _ => nb.length - (intOf v).toNat)
              case atStart => exact ⟨0, rfl, Nat.zero_le _, HK2.out⟩
              case round =>
                obtain ⟨k2, rfl, hk2, hb2⟩ := hrel
                obtain ⟨wj, rfl⟩ : ∃ x, x = wr := ⟨_, rfl⟩
                have HJ2 := Lib.hid hb2
                clear hb2 z2 z6
                have z2 := HP.out.2.2.1 i hil wj HJ2.out
                rw [← HP.out.1] at z2
                have z6 := pw_cell_below HJ2.out HP.out.2.2.2.2.2.1
                by_cases hkn : k2 < nb.length
                · have hkn' : (k2 : Int) < (nb.length : Int) := by omega
                  have hk20 : (0 : Int) ≤ (k2 : Int) := by omega
                  obtain ⟨aB, hAB, z7⟩ := Kd.at_int (Kd.C_below HP.out.2.2.2.2.2.2 HJ2.out) (k2 : Int) hk20 hkn'
                  subst hAB
                  obtain ⟨s, hs⟩ : ∃ s, s = nb.getD k2 0 := ⟨_, rfl⟩
                  rw [Int.toNat_natCast, rd_int, ← hs] at z7
                  have hsL : s ∈ L := H6.out.2.1.needs p HP.out.2.1 s (by rw [← HP.out.2.2.2.2.1, hs, List.getD_eq_getElem?_getD, List.getElem?_eq_getElem hkn]; exact List.getElem_mem _)
                  have HSL := Lib.hid (decide_eq_true hsL)
                  clear hs hsL
                  go_wp2_with fail
                  refine (c_inN (l := L) (x := s) (Kd.C_below H6.out.2.2.1 HJ2.out)).mono ?_
                  rintro e w' ⟨rfl, rfl⟩
                  rw [HSL.out]
                  go_wp2_with fail
                  exact ⟨⟨k2 + 1, by rw [Int.natCast_add]; rfl, by omega, HJ2.out⟩, by simp [intOf]; omega⟩
                · have hkn' : ¬ (k2 : Int) < (nb.length : Int) := by omega
                  by_cases hi0' : 0 < i
                  · have hi1 : (0 : Int) < (i : Int) := by omega
                    have hi2 : ((i : Int) - 1).toNat = i - 1 := by omega
                    have hi3 : (0 : Int) ≤ (i : Int) - 1 := by omega
                    have hi4 : (i : Int) - 1 < (L.length : Int) := by omega
                    have z8 := HP.out.2.2.1 (i - 1) (by omega) wj HJ2.out
                    obtain ⟨s, hs⟩ : ∃ s, s = L.getD (i - 1) 0 := ⟨_, rfl⟩
                    rw [← hs] at z8
                    have hsp : s < p := by
                      rw [hs, HP.out.1]
                      exact rises_at H6.out.2.1.rises (by omega) hil
                    have hsp' : decide (p ≤ s) = false := by rw [decide_eq_false_iff_not]; omega
                    clear hs
                    go_wp2_with fail
                    go_quiet (fail)
                    go_wp2_with fail
                    exact ⟨⟨i + 1, by rw [Int.natCast_add]; rfl, by omega, pw_below_drewN HJ2.out _⟩, by simp [intOf]; omega⟩
                  · have hi1 : decide ((0 : Int) < (i : Int)) = false := by rw [decide_eq_false_iff_not]; omega
                    go_wp2_with fail
                    go_quiet (fail)
                    go_wp2_with fail
                    exact ⟨⟨i + 1, by rw [Int.natCast_add]; rfl, by omega, pw_below_drewN HJ2.out _⟩, by simp [intOf]; omega⟩
        · have hil' : ¬ (i : Int) < (L.length : Int) := by omega
          go_wp2_with fail
          refine c_awake.mono ?_
          rintro ex w7 ⟨rfl, hb7⟩
          have HX7 := Lib.hid (HW.out.2.trans (hb7.mono HW.out.2.size))
          clear hb7
          go_wp2_with fail
          go_ret
          exact ⟨rfl, HX7.out⟩
end
end Go.Proofs.Ytmfcefakpfbaoaa.PMatch
