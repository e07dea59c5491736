/- The walk of the statement BltSplit. -/
import Derived.Test.YtmfcefakpfbaoaaZXBltSplit
set_option linter.unusedVariables false
set_option linter.unusedSimpArgs false
namespace Go.Proofs.Ytmfcefakpfbaoaa.PMatch
open Go.RowKit Go.Proofs.YtmfcefakpfbaoaaW.PrintWords Go.Proofs.YtmfcefakpfbaoaaW.PrintLast Go.Proofs.YtmfcefakpfbaoaaW.PrintMore
open Blt (ints blocksB needsB levelsB)
theorem RowV.made (W : World) (n : Nat) {g : Nat} (hg : g = W.heap.size) : RowV g n (fun _ => .bool false) (W.alloc (.cells (madeCells #[.bool false] n) 4)) := by
  subst hg
  refine ⟨fun e he => ?_, fun e he => ?_, by simp⟩
  · rw [World.cell?_alloc_at _ _ _ _ rfl]
    simp [madeCells, he, Nat.mod_one]
  · rw [World.frozen?_alloc_at _ _ _ _ rfl]
theorem and_one (x : Int) (h0 : 0 ≤ x) (h1 : x < 4611686018427387904) : bits .and .i64 x 1 = x % 2 := by
  have := bits_mask .i64 62 (by decide) (fun n h2 h3 => by rw [IntKind.wrap_i64]; omega) 1 (by decide) x h0 (by omega)
  simpa using this
theorem bit_test {s i : Nat} (hs : s ≤ 512) : bits .and .i64 ((s : Int) / 2 ^ i) 1 = if s.testBit i then 1 else 0 := by
  have e1 : (s : Int) / 2 ^ i = ((s / 2 ^ i : Nat) : Int) := by
    rw [Int.natCast_ediv, Int.natCast_pow]; rfl
  have h2 : s / 2 ^ i ≤ s := Nat.div_le_self _ _
  rw [e1, Nat.testBit_eq_decide_div_mod_eq]
  generalize s / 2 ^ i = d at h2
  rw [and_one _ (by omega) (by omega)]
  by_cases h : d % 2 = 1
  · rw [decide_eq_true h, if_pos rfl]; omega
  · rw [decide_eq_false h, if_neg (by simp)]; omega
theorem Hit.skip {J : List (List Int)} {G : Nat → Int} {b : Nat} {bb : List Nat} {s i u : Nat} (h : s.testBit i = false) : Hit J G b bb s (i + 1) 0 u ↔ Hit J G b bb s i 0 u := by
  constructor
  · rintro ⟨j, q, h1, h2, h3, h4, h5⟩
    rcases h5 with h5 | ⟨_, h5⟩
    · refine ⟨j, q, h1, h2, h3, h4, .inl ?_⟩
      rcases Nat.lt_or_eq_of_le (Nat.le_of_lt_succ h5) with h6 | h6
      · exact h6
      · rw [h6, h] at h4; cases h4
    · omega
  · rintro ⟨j, q, h1, h2, h3, h4, h5⟩
    exact ⟨j, q, h1, h2, h3, h4, .inl (by omega)⟩
theorem Hit.row {J : List (List Int)} {G : Nat → Int} {b : Nat} {bb : List Nat} {s i u : Nat} : Hit J G b bb s i (rd_L4 J (bb.getD i 0)).length u ↔ Hit J G b bb s (i + 1) 0 u := by
  constructor
  · rintro ⟨j, q, h1, h2, h3, h4, h5⟩
    exact ⟨j, q, h1, h2, h3, h4, .inl (by omega)⟩
  · rintro ⟨j, q, h1, h2, h3, h4, h5⟩
    refine ⟨j, q, h1, h2, h3, h4, ?_⟩
    rcases Nat.lt_or_ge j i with h6 | h6
    · exact .inl h6
    · obtain rfl : j = i := by omega
      exact .inr ⟨rfl, h1⟩
theorem Hit.next {J : List (List Int)} {G : Nat → Int} {b : Nat} {bb : List Nat} {s i k u v : Nat} (h : s.testBit i = true) (hk : k < (rd_L4 J (bb.getD i 0)).length) (hv : rd (rd_L4 J (bb.getD i 0)) k = v) : Hit J G b bb s i (k + 1) u ↔ Hit J G b bb s i k u ∨ (u = v ∧ G v = b) := by
  constructor
  · rintro ⟨j, q, h1, h2, h3, h4, h5⟩
    by_cases h6 : j = i ∧ q = k
    · obtain ⟨rfl, rfl⟩ := h6
      rw [hv] at h2
      have : v = u := by omega
      subst this
      exact .inr ⟨rfl, h3⟩
    · exact .inl ⟨j, q, h1, h2, h3, h4, by omega⟩
  · rintro (⟨j, q, h1, h2, h3, h4, h5⟩ | ⟨rfl, h3⟩)
    · exact ⟨j, q, h1, h2, h3, h4, by omega⟩
    · exact ⟨i, k, hk, hv, h3, h, .inr ⟨rfl, by omega⟩⟩
theorem count_next {p : Nat → Bool} {i : Nat} : (List.range (i + 1)).countP p = (List.range i).countP p + if p i then 1 else 0 := by
  rw [List.range_succ, List.countP_append]; simp [List.countP_cons]
section
variable {E : List ByteArray} {U : List S47} {J : List (List Int)} {m : List Int}
variable {A0 : Option Addr} {c0 : Nat} {A1 : Option Addr} {c1 : Nat} {A2 : Option Addr} {c2 : Nat} {w : World}
set_option maxRecDepth 100000 in
set_option maxHeartbeats 4000000 in
theorem c_BltSplit (h0 : Kd.C Kd.string w A0 E.length E) (hc0 : E.length ≤ c0) (h1 : Kd.C k47 w A1 U.length U) (hc1 : U.length ≤ c1)
    (h2 : Kd.C (Kd.slice 3 (Kd.int .i64)) w A2 J.length J) (hc2 : J.length ≤ c2) :
    Calls Try.prog 4 #[.agg #[.slice A0 E.length c0, .slice A1 U.length c1, .slice A2 J.length c2]] w fun e w' => e = .returned (.bool true) ∧ Below w.heap.size w w' := by
  have hb1 : Below w.heap.size w (w.alloc (.cells #[.slice A0 E.length c0, .slice A1 U.length c1, .slice A2 J.length c2] 26)) := (Below.refl _ _).alloc (Nat.le_refl _) _
  have hsv := c_solved (c0 := c0) (c1 := c1) (c2 := c2) (Kd.C_below h0 hb1) hc0 (Kd.C_below h1 hb1) hc1 (Kd.C_below h2 hb1) hc2
  have HC := Lib.hid hsv
  have HG := Lib.hid (And.intro h0 (And.intro hc0 (And.intro h1 (And.intro hc1 (And.intro h2 hc2)))))
  have HB := Lib.hid hb1
  have hu26 := Try.underlying26
  have hu42 := Try.underlying42
  have hu43 := Try.underlying43
  have hul14 : U.length ≤ 9223372036854775807 := Kd.C_max h1
  have hs1 : (w.alloc (.cells #[.slice A0 E.length c0, .slice A1 U.length c1, .slice A2 J.length c2] 26)).heap.size = w.heap.size + 1 := by simp
  have HS := Lib.hid hs1
  clear h0 hc0 h1 hc1 h2 hc2 hb1 hsv hs1
  go_enter Try.func4, Try.ntmps4
  go_wp2_with fail
  refine HC.out.mono ?_
  rintro ex w2 ⟨hb2, hor⟩
  rw [HS.out] at hb2
  have hcell : ∀ (i : Nat) (v : Value), #[Value.slice A0 E.length c0, .slice A1 U.length c1, .slice A2 J.length c2][i]? = some v → w2.cell? ⟨w.heap.size, i, none⟩ = some v := fun i v hv => (hb2.cell (by exact Nat.lt_succ_self _)).trans (by rw [World.cell?_alloc_at _ _ _ _ rfl]; exact hv)
  have g0 := hcell 0 _ rfl
  have g1 := hcell 1 _ rfl
  have g2 := hcell 2 _ rfl
  have HX := Lib.hid (HB.out.trans (hb2.mono (Nat.le_succ _)))
  clear hb2 hcell
  rcases hor with rfl | ⟨m, A, c, hs, rfl, hc, hC⟩
  · go_wp2_with fail
    refine c_awake.mono ?_
    rintro ex w3 ⟨rfl, hb3⟩
    have HX3 := Lib.hid (HX.out.trans (hb3.mono HX.out.size))
    clear hb3
    go_wp2_with fail
    go_ret
    exact ⟨rfl, HX3.out⟩
  · have HV := Lib.hid (And.intro hs (And.intro hc hC))
    have hEl : E.length ≤ 14 := hs.small
    have hUl : U.length ≤ 14 := by rw [← hs.has.1]; exact hEl
    have HJ := Lib.hid (And.intro (show J.length = E.length from hs.valid.len) (show U.length = E.length from hs.has.1.symm))
    clear hs hc hC
    go_wp2_with fail
    refine (c_blocks_of HV.out.1 (Kd.C_below HG.out.1 HX.out) (Kd.C_below HG.out.2.2.1 HX.out) HV.out.2.2).mono ?_
    rintro ex w3 ⟨g7, g8, F, G, rfl, hb3, r7, r8, hF, hGG⟩
    have HGX := Lib.hid (And.intro (pw_cell_below hb3 g0) (And.intro (pw_cell_below hb3 g1) (pw_cell_below hb3 g2)))
    have HX3 := Lib.hid (And.intro (HX.out.trans (hb3.mono HX.out.size)) (And.intro r8 (And.intro hGG (Kd.C_below HV.out.2.2 hb3))))
    clear hb3 r7 r8 hF hGG g0 g1 g2
    obtain ⟨bl, hbl⟩ : ∃ bl, bl = blocksB E.length (ndB J m) := ⟨_, rfl⟩
    have HBL := Lib.hid hbl
    rw [← hbl]
    have hNE : bl.length ≤ 14 := by
      have h1 := List.length_filter_le (Blt.leadB E.length (ndB J m)) (List.range E.length)
      rw [hbl, Blt.blocksB_len, Blt.blocks0, List.length_map]
      rw [List.length_range] at h1
      omega
    clear hbl
    go_wp2_with fail
    go_loopw [7] (fun v W => ∃ b : Nat, v = .int .i64 b ∧ b ≤ bl.length ∧ Below w3.heap.size w3 W) (fun v _ => bl.length - (intOf v).toNat)
    case atStart => exact ⟨0, rfl, Nat.zero_le _, Below.refl _ _⟩
    case round =>
      obtain ⟨b, rfl, hb, hbw⟩ := hrel
      obtain ⟨wo, rfl⟩ : ∃ x, x = wr := ⟨_, rfl⟩
      have HW := Lib.hid hbw
      clear hbw
      by_cases hbl : b < bl.length
      · have hbl' : (b : Int) < (bl.length : Int) := by omega
        have hb0 : (0 : Int) ≤ (b : Int) := by omega
        have hgb : bl[b]? = some (bl.getD b []) := by rw [List.getD_eq_getElem?_getD, List.getElem?_eq_getElem hbl]; rfl
        have hmap : (bl.map (partOf E U m)).getD b ([], []) = partOf E U m (bl.getD b []) := by rw [List.getD_eq_getElem?_getD, List.getElem?_map, hgb]; rfl
        have hCw := Kd.C_below HX3.out.2.2.2 HW.out
        rw [← HBL.out] at hCw
        obtain ⟨ad, Ax, cx, Ay, cy, hA, ax0, ay0, hCx, hCy⟩ := at_part hCw b hbl
        rw [hmap] at ax0 hCx
        clear ay0 hCy hCw hmap
        obtain ⟨bb, hbb⟩ : ∃ bb, bb = bl.getD b [] := ⟨_, rfl⟩
        rw [← hbb] at ax0 hCx hgb
        rw [show (partOf E U m bb).1 = bb.map fun e => E.getD e ByteArray.empty from rfl, List.length_map] at ax0 hCx
        have hbln : bb.length ≤ 14 := by
          have := block_len ((Blt.blocksB_spec).rises b bb (by rw [← HBL.out]; exact hgb)) ((Blt.blocksB_spec).lt b bb (by rw [← HBL.out]; exact hgb))
          omega
        have HD := Lib.hid (And.intro hgb (And.intro ax0 hCx))
        subst hA
        clear hgb hbb hCx
        by_cases hn9 : 9 < bb.length
        · have hn9' : (9 : Int) < (bb.length : Int) := by omega
          go_wp2_with fail
          exact ⟨⟨b + 1, by rw [Int.natCast_add]; rfl, by omega, HW.out⟩, by simp [intOf]; omega⟩
        · have hn9' : ¬ (9 : Int) < (bb.length : Int) := by omega
          have hn0 : (0 : Int) ≤ (bb.length : Int) := by omega
          have hn1 : ¬ (bb.length : Int) < 0 := by omega
          go_wp2_with fail
          obtain ⟨P, hP⟩ : ∃ P : Nat, P = 2 ^ bb.length := ⟨_, rfl⟩
          have hP5 : P ≤ 512 := by rw [hP]; exact Nat.pow_le_pow_right (n := 2) (by decide) (show bb.length ≤ 9 by omega)
          have hPi : wrap64 (wrap64 (2 ^ bb.length) - 1) = (P : Int) - 1 := by
            have e1 : (2 : Int) ^ bb.length = (P : Int) := by rw [hP, Int.natCast_pow]; rfl
            rw [e1, IntWalk.wrap64_in (P : Int) (by omega), IntWalk.wrap64_in ((P : Int) - 1) (by omega)]
          have HP := Lib.hid (And.intro hP hPi)
          have mk43 := run_make_row' (P := Try.prog) 43 4 (.bool false) 1 Try.underlying43 info4 rfl .i64 .i64 U.length (by omega) (by omega)
          clear hP hPi
          go_loopw [9] (fun v W => ∃ s : Nat, v = .int .i64 s ∧ 1 ≤ s ∧ s ≤ P ∧ Below wo.heap.size wo W) (fun v _ => P - (intOf v).toNat)
          case atStart => exact ⟨1, rfl, Nat.le_refl _, by rw [HP.out.1]; exact Nat.one_le_two_pow, Below.refl _ _⟩
          case round =>
            obtain ⟨s, rfl, hs1, hs2, hbs⟩ := hrel
            obtain ⟨ws, rfl⟩ : ∃ x, x = wr := ⟨_, rfl⟩
            have HSS := Lib.hid hbs
            have d1 := pw_cell_below hbs (pw_cell_below HW.out HGX.out.2.1)
            clear hbs
            by_cases hsP : s < P - 1
            · have hsc : (s : Int) < wrap64 (wrap64 (2 ^ bb.length) - 1) := by rw [HP.out.2]; omega
              have hr0 : RowV ws.heap.size U.length (fun _ => .bool false) (ws.alloc (.cells (madeCells #[.bool false] U.length) 4)) := RowV.made ws U.length rfl
              have hba : Below ws.heap.size ws (ws.alloc (.cells (madeCells #[.bool false] U.length) 4)) := below_alloc (Below.refl _ _) _
              have HR0 := Lib.hid (And.intro hr0 hba)
              have HWS := Lib.hid ((HX3.out.1.trans (HW.out.mono HX3.out.1.size)).trans (HSS.out.mono (HX3.out.1.trans (HW.out.mono HX3.out.1.size)).size))
              have HCS := Lib.hid (And.intro (pw_cell_below HSS.out (pw_cell_below HW.out HGX.out.1)) (And.intro (pw_cell_below HSS.out (pw_cell_below HW.out HGX.out.2.1)) (And.intro (pw_cell_below HSS.out (pw_cell_below HW.out HGX.out.2.2)) (And.intro (pw_cell_below HSS.out HD.out.2.1) (And.intro (Kd.C_below HD.out.2.2 HSS.out) ((HX3.out.2.1.below HW.out).below HSS.out))))))
              clear hr0 hba
              go_wp2_with fail
              go_loopw [13, 11, 12] (fun v x y W => ∃ (i : Nat) (I : Nat → Bool) (k l : Nat), v = .int .i64 i ∧ i ≤ bb.length ∧ x = .int .i64 l ∧ y = .int .i64 k ∧ k ≤ i ∧ l ≤ U.length ∧ Below ws.heap.size ws W ∧ k = (List.range i).countP s.testBit ∧ l = (List.range U.length).countP I ∧
                  RowV ws.heap.size U.length (fun u => .bool (I u)) W ∧ ∀ u, u < U.length → (I u = true ↔ Hit J G b bb s i 0 u)) (fun v _ _ _ => bb.length - (intOf v).toNat)
              case atStart =>
                exact ⟨0, fun _ => false, 0, 0, rfl, Nat.zero_le _, rfl, rfl, Nat.zero_le _, Nat.zero_le _, HR0.out.2, rfl, by simp, HR0.out.1, fun u hu => ⟨fun h => (by cases h), fun ⟨j, q, _, _, _, _, h⟩ => by omega⟩⟩
              case round =>
                obtain ⟨i, I, k, l, rfl, hi, rfl, rfl, hk, hl, hbi, hkc, hlc, hrv, hI⟩ := hrel
                obtain ⟨wi, rfl⟩ : ∃ x, x = wr := ⟨_, rfl⟩
                have HI := Lib.hid (And.intro hbi (And.intro hkc (And.intro hlc (And.intro hrv hI))))
                clear hbi hkc hlc hrv hI d1
                by_cases hil : i < bb.length
                · have hil' : (i : Int) < (bb.length : Int) := by omega
                  have hi0 : (0 : Int) ≤ (i : Int) := by omega
                  have hi1 : ¬ (i : Int) < 0 := by omega
                  have hbt := bit_test (s := s) (i := i) (by omega)
                  cases hbit : s.testBit i
                  · rw [hbit] at hbt
                    have hq : (bits BinOp.and IntKind.i64 ((s : Int) / 2 ^ i) 1 == 0) = true := by rw [hbt]; rfl
                    have HBT := Lib.hid hbit
                    clear hbt hbit
                    go_wp2_with fail
                    refine ⟨⟨i + 1, I, k, l, by rw [Int.natCast_add]; rfl, by omega, rfl, rfl, by omega, hl, HI.out.1, ?_, HI.out.2.2.1, HI.out.2.2.2.1, fun u hu => (HI.out.2.2.2.2 u hu).trans (Hit.skip HBT.out).symm⟩, by simp [intOf]; omega⟩
                    rw [count_next, HBT.out, HI.out.2.1]; rfl
                  · rw [hbit] at hbt
                    have hq : (bits BinOp.and IntKind.i64 ((s : Int) / 2 ^ i) 1 == 0) = false := by rw [hbt]; rfl
                    have HBT := Lib.hid hbit
                    clear hbt hbit
                    have a0 := pw_cell_below HI.out.1 HCS.out.1
                    have a1 := pw_cell_below HI.out.1 HCS.out.2.1
                    have a2 := pw_cell_below HI.out.1 HCS.out.2.2.1
                    have ax0 := pw_cell_below HI.out.1 HCS.out.2.2.2.1
                    have hCx := Kd.C_below HCS.out.2.2.2.2.1 HI.out.1
                    obtain ⟨ax, hAx, ax1⟩ := Kd.at_string hCx (i : Int) hi0 hil'
                    subst hAx
                    obtain ⟨e, he⟩ : ∃ e, e = bb.getD i 0 := ⟨_, rfl⟩
                    have hen : e < E.length := by rw [he]; exact (Blt.blocksB_spec).lt b bb (by rw [← HBL.out]; exact HD.out.1) _ (getD_lt hil)
                    have hnm : rdOf ByteArray.empty (bb.map fun e => E.getD e ByteArray.empty) (i : Int) = E.getD e ByteArray.empty := by
                      rw [rdOf, Int.toNat_natCast, he, List.getD_eq_getElem?_getD, List.getElem?_map, List.getElem?_eq_getElem hil, List.getD_eq_getElem?_getD (l := bb), List.getElem?_eq_getElem hil]; rfl
                    rw [hnm, Int.toNat_natCast] at ax1
                    obtain ⟨nm, hnme⟩ : ∃ nm, nm = E.getD e ByteArray.empty := ⟨_, rfl⟩
                    rw [← hnme] at ax1
                    have HE := Lib.hid (c_eq (U := U) (J := J) (A0 := A0) (c0 := c0) (A1 := A1) (c1 := c1) (A2 := A2) (c2 := c2) (w := wi.drew) (e := e) (s := nm) (Kd.C_drew (Kd.C_below (Kd.C_below HG.out.1 HWS.out) HI.out.1)) hen (by rw [hnme]) (fun j hj => by rw [hnme]; exact HV.out.1.good.apart hj hen))
                    have HEE := Lib.hid he
                    clear hCx hnm hnme he
                    go_wp2_with fail
                    refine OrdL.begin_ (S := fun W => W.cell? ⟨w.heap.size, 0, none⟩ = some (.slice A0 E.length c0) ∧ W.cell? ⟨w.heap.size, 1, none⟩ = some (.slice A1 U.length c1) ∧ W.cell? ⟨w.heap.size, 2, none⟩ = some (.slice A2 J.length c2) ∧ W.cell? (ad.add (b * 2)) = some (.slice (some ax) bb.length cx) ∧ W.cell? (ax.add i) = some (.string nm)) [] [10] (by kernel_rfl) ?_ (fun hHeld => ?_)
                    focus ((try dsimp only); exact ⟨a0, a1, a2, ax0, ax1⟩)
                    refine OrdL.take (i := 0) (d := (some 71)) (v := ?_) rfl rfl (by kernel_rfl) (by kernel_rfl) (by kernel_rfl) (by kernel_rfl) (fun _ _ _ h => h) (by assumption) ⟨by rfl, ?_⟩ ?_
                    rotate_left
                    focus (intro w hSw; (try dsimp only at hSw); go_simp; try with_reducible rfl)
                    (try simp only [Act.put, List.getElem_toArray, List.getElem_cons_zero, List.getElem_cons_succ, List.setIfInBounds_toArray, List.set_cons_zero, List.set_cons_succ])
                    refine OrdL.take (i := 1) (d := (some 72)) (v := ?_) rfl rfl (by kernel_rfl) (by kernel_rfl) (by kernel_rfl) (by kernel_rfl) (fun _ _ _ h => h) (by assumption) ⟨by rfl, ?_⟩ ?_
                    rotate_left
                    focus (intro w hSw; (try dsimp only at hSw); go_simp; try with_reducible rfl)
                    (try simp only [Act.put, List.getElem_toArray, List.getElem_cons_zero, List.getElem_cons_succ, List.setIfInBounds_toArray, List.set_cons_zero, List.set_cons_succ])
                    refine OrdL.take (i := 2) (d := (some 73)) (v := ?_) rfl rfl (by kernel_rfl) (by kernel_rfl) (by kernel_rfl) (by kernel_rfl) (fun _ _ _ h => h) (by assumption) ⟨by rfl, ?_⟩ ?_
                    rotate_left
                    focus (intro w hSw; (try dsimp only at hSw); go_simp; try with_reducible rfl)
                    (try simp only [Act.put, List.getElem_toArray, List.getElem_cons_zero, List.getElem_cons_succ, List.setIfInBounds_toArray, List.set_cons_zero, List.set_cons_succ])
                    refine OrdL.take (i := 3) (d := (some 74)) (v := ?_) rfl rfl (by kernel_rfl) (by kernel_rfl) (by kernel_rfl) (by kernel_rfl) (fun _ _ _ h => h) (by assumption) ⟨by rfl, ?_⟩ ?_
                    rotate_left
                    focus (intro w hSw; (try dsimp only at hSw); go_simp; try with_reducible rfl)
                    (try simp only [Act.put, List.getElem_toArray, List.getElem_cons_zero, List.getElem_cons_succ, List.setIfInBounds_toArray, List.set_cons_zero, List.set_cons_succ])
                    refine OrdL.take (i := 4) (d := (some 75)) (v := ?_) rfl rfl (by kernel_rfl) (by kernel_rfl) (by kernel_rfl) (by kernel_rfl) (fun _ _ _ h => h) (by assumption) ⟨by rfl, ?_⟩ ?_
                    rotate_left
                    focus (intro w hSw; (try dsimp only at hSw); go_simp; try with_reducible rfl)
                    (try simp only [Act.put, List.getElem_toArray, List.getElem_cons_zero, List.getElem_cons_succ, List.setIfInBounds_toArray, List.set_cons_zero, List.set_cons_succ])
                    refine OrdL.take (i := 5) (d := (some 76)) (v := ?_) rfl rfl (by kernel_rfl) (by kernel_rfl) (by kernel_rfl) (by kernel_rfl) (fun _ _ _ h => h) (by assumption) ⟨by rfl, ?_⟩ ?_
                    rotate_left
                    focus (intro w hSw; (try dsimp only at hSw); go_simp; try with_reducible rfl)
                    (try simp only [Act.put, List.getElem_toArray, List.getElem_cons_zero, List.getElem_cons_succ, List.setIfInBounds_toArray, List.set_cons_zero, List.set_cons_succ])
                    refine OrdL.take (i := 6) (d := (some 77)) (v := ?_) rfl rfl (by kernel_rfl) (by kernel_rfl) (by kernel_rfl) (by kernel_rfl) (fun _ _ _ h => h) (by assumption) ⟨by rfl, ?_⟩ ?_
                    rotate_left
                    focus (intro w hSw; (try dsimp only at hSw); go_simp; try with_reducible rfl)
                    (try simp only [Act.put, List.getElem_toArray, List.getElem_cons_zero, List.getElem_cons_succ, List.setIfInBounds_toArray, List.set_cons_zero, List.set_cons_succ])
                    refine OrdL.take (i := 7) (d := (some 78)) (v := ?_) rfl rfl (by kernel_rfl) (by kernel_rfl) (by kernel_rfl) (by kernel_rfl) (fun _ _ _ h => h) (by assumption) ⟨by rfl, ?_⟩ ?_
                    rotate_left
                    focus (intro w hSw; (try dsimp only at hSw); go_simp; try with_reducible rfl)
                    (try simp only [Act.put, List.getElem_toArray, List.getElem_cons_zero, List.getElem_cons_succ, List.setIfInBounds_toArray, List.set_cons_zero, List.set_cons_succ])
                    refine OrdL.take (i := 8) (d := (some 79)) (v := ?_) rfl rfl (by kernel_rfl) (by kernel_rfl) (by kernel_rfl) (by kernel_rfl) (fun _ _ _ h => h) (by assumption) ⟨by rfl, ?_⟩ ?_
                    rotate_left
                    focus (intro w hSw; (try dsimp only at hSw); go_simp; try with_reducible rfl)
                    (try simp only [Act.put, List.getElem_toArray, List.getElem_cons_zero, List.getElem_cons_succ, List.setIfInBounds_toArray, List.set_cons_zero, List.set_cons_succ])
                    refine OrdL.step (i := 9) rfl (by decide) (by kernel_rfl) (fun Kc hKc => ?_)
                    simp only [List.getElem_toArray, List.getElem_cons_zero, List.getElem_cons_succ]
                    go_simp
                    go_at_call 15
                    refine HE.out.mono ?_
                    rintro ex w5 ⟨rfl, hb5⟩
                    have HB5 := Lib.hid hb5
                    clear hb5
                    go_wp2_with fail
                    refine hKc.out _ _ ?_ (fun hHeld => ?_)
                    focus ((try dsimp only); exact ⟨pw_cell_below HB5.out (show wi.drew.cell? _ = _ from a0), pw_cell_below HB5.out (show wi.drew.cell? _ = _ from a1), pw_cell_below HB5.out (show wi.drew.cell? _ = _ from a2), pw_cell_below HB5.out (show wi.drew.cell? _ = _ from ax0), pw_cell_below HB5.out (show wi.drew.cell? _ = _ from ax1)⟩)
                    clear hKc Kc
                    (try simp only [Act.put, List.getElem_toArray, List.getElem_cons_zero, List.getElem_cons_succ, List.setIfInBounds_toArray, List.set_cons_zero, List.set_cons_succ])
                    refine OrdL.last (i := 10) rfl (by decide) (by decide) (by kernel_rfl) (fun Kc hKc => ?_)
                    simp only [List.getElem_toArray, List.getElem_cons_zero, List.getElem_cons_succ]
                    go_simp
                    refine hKc.out _ _ ?_
                    clear hKc Kc
                    (try simp only [Act.put, List.getElem_toArray, List.getElem_cons_zero, List.getElem_cons_succ, List.setIfInBounds_toArray, List.set_cons_zero, List.set_cons_succ])
                    refine OrdL.done (by kernel_rfl) ?_ _
                    have hb5 : Below ws.heap.size ws w5 := (below_drew HI.out.1).trans (HB5.out.mono (below_drew HI.out.1).size)
                    have H5 := Lib.hid (And.intro hb5 (HI.out.2.2.2.1.drew.below HB5.out))
                    have b2 := pw_cell_below hb5 HCS.out.2.2.1
                    obtain ⟨aJ, B, d, hAJ, h7, h8, h9⟩ := at_L4 (Kd.C_below HG.out.2.2.2.2.1 HWS.out) (e : Int) (by omega) (by rw [HJ.out.1]; omega)
                    rw [Int.toNat_natCast] at h7
                    obtain ⟨R, hR⟩ : ∃ R, R = rd_L4 J e := ⟨_, rfl⟩
                    rw [← hR] at h7 h8 h9
                    have hmxR := Kd.C_max h9
                    have he0 : (0 : Int) ≤ (e : Int) := by omega
                    have heJ : (e : Int) < (J.length : Int) := by rw [HJ.out.1]; omega
                    have HR := Lib.hid (And.intro hR (And.intro h9 (And.intro h7 (And.intro hil hen))))
                    subst hAJ
                    have b7 := pw_cell_below hb5 h7
                    clear hR h8 h9 hb5 a0 a1 a2 ax0 ax1 h7
                    go_wp2_with fail
                    go_loopw [15, 11] (fun v x W => ∃ (q : Nat) (I' : Nat → Bool) (l' : Nat), v = .int .i64 q ∧ q ≤ R.length ∧ x = .int .i64 l' ∧ l' ≤ U.length ∧ Below ws.heap.size ws W ∧ l' = (List.range U.length).countP I' ∧ RowV ws.heap.size U.length (fun u => .bool (I' u)) W ∧ ∀ u, u < U.length → (I' u = true ↔ Hit J G b bb s i q u)) (fun v _ _ => R.length - (intOf v).toNat)
                    case atStart => exact ⟨0, I, l, rfl, Nat.zero_le _, rfl, hl, H5.out.1, HI.out.2.2.1, H5.out.2, HI.out.2.2.2.2⟩
                    case round =>
                      obtain ⟨q, I', l', rfl, hq, rfl, hl', hbq, hlc, hrv, hI'⟩ := hrel
                      obtain ⟨wq, rfl⟩ : ∃ x, x = wr := ⟨_, rfl⟩
                      have k2 := pw_cell_below hbq HCS.out.2.2.1
                      have k7 := pw_cell_below hbq HR.out.2.2.1
                      have HQ := Lib.hid (And.intro hbq (And.intro hlc (And.intro hrv hI')))
                      clear hbq hlc hrv hI' b2 b7
                      by_cases hql : q < R.length
                      · have hql' : (q : Int) < (R.length : Int) := by omega
                        have hq0 : (0 : Int) ≤ (q : Int) := by omega
                        obtain ⟨aR, hAR, hcR⟩ := Kd.at_int (Kd.C_below HR.out.2.1 HQ.out.1) (q : Int) hq0 hql'
                        subst hAR
                        rw [Int.toNat_natCast] at hcR
                        have hx := (HV.out.1.valid.rows e (by rw [HJ.out.1]; exact HR.out.2.2.2.2)).1 q (by rw [← HR.out.1]; exact hql)
                        rw [← HR.out.1] at hx
                        obtain ⟨x, hxe⟩ : ∃ x, x = rd R q := ⟨_, rfl⟩
                        rw [← hxe] at hcR hx
                        have hx0 := hx.1
                        have hx1 := hx.2.1
                        have hxn : x.toNat < U.length := by omega
                        have hc8 := (HCS.out.2.2.2.2.2.below HQ.out.1).cell x.toNat hxn
                        have hci := HQ.out.2.2.1.cell x.toNat hxn
                        have hfi := HQ.out.2.2.1.soft x.toNat hxn
                        have hnx := fun u => Hit.next (J := J) (G := G) (b := b) (bb := bb) (s := s) (i := i) (k := q) (u := u) (v := x.toNat) HBT.out (by rw [← HEE.out, ← HR.out.1]; exact hql) (by rw [← HEE.out, ← HR.out.1, ← hxe]; omega)
                        obtain ⟨gx, hgx⟩ : ∃ gx, gx = G x.toNat := ⟨_, rfl⟩
                        rw [← hgx] at hc8 hnx
                        have HNX := Lib.hid hnx
                        clear hx hxe hnx hgx
                        by_cases hgb : gx = (b : Int)
                        · subst hgb
                          cases hIx : I' x.toNat
                          · rw [hIx] at hci
                            have HIX := Lib.hid hIx
                            clear hIx
                            go_wp2_with fail
                            have hne : ∀ g, g < ws.heap.size → g ≠ ws.heap.size := fun g hg => Nat.ne_of_lt hg
                            have hbn : Below ws.heap.size ws (wq.setCell ⟨ws.heap.size, x.toNat, none⟩ (.bool true)) := HQ.out.1.setCell (Nat.le_refl _) _
                            refine ⟨⟨q + 1, updB I' x.toNat, l' + 1, by rw [Int.natCast_add]; rfl, by omega, by rw [Int.natCast_add]; rfl, ?_, hbn, by rw [count_upd hxn HIX.out, HQ.out.2.1], ?_, fun u hu => ?_⟩, by simp [intOf]; omega⟩
                            · have := List.countP_le_length (p := updB I' x.toNat) (l := List.range U.length)
                              rw [count_upd hxn HIX.out, ← HQ.out.2.1, List.length_range] at this
                              exact this
                            · refine (HQ.out.2.2.1.put hxn (.bool true)).congr fun k hk => ?_
                              unfold updV updB
                              by_cases e1 : k = x.toNat
                              · rw [if_pos e1, if_pos e1]
                              · rw [if_neg e1, if_neg e1]
                            · rw [HNX.out u, ← HQ.out.2.2.2 u hu]
                              unfold updB
                              by_cases e1 : u = x.toNat
                              · rw [if_pos e1]; simp [e1]
                              · rw [if_neg e1]; simp [e1]
                          · rw [hIx] at hci
                            have HIX := Lib.hid hIx
                            clear hIx
                            go_wp2_with fail
                            refine ⟨⟨q + 1, I', l', by rw [Int.natCast_add]; rfl, by omega, rfl, hl', HQ.out.1, HQ.out.2.1, HQ.out.2.2.1, fun u hu => ?_⟩, by simp [intOf]; omega⟩
                            rw [HNX.out u, ← HQ.out.2.2.2 u hu]
                            constructor
                            · exact .inl
                            · rintro (h | ⟨rfl, _⟩)
                              · exact h
                              · exact HIX.out
                        · have hgb' : (gx == (b : Int)) = false := beq_eq_false_iff_ne.2 hgb
                          have HGB := Lib.hid hgb
                          clear hgb
                          go_wp2_with fail
                          refine ⟨⟨q + 1, I', l', by rw [Int.natCast_add]; rfl, by omega, rfl, hl', HQ.out.1, HQ.out.2.1, HQ.out.2.2.1, fun u hu => ?_⟩, by simp [intOf]; omega⟩
                          rw [HNX.out u, ← HQ.out.2.2.2 u hu]
                          constructor
                          · exact .inl
                          · rintro (h | ⟨_, h⟩)
                            · exact h
                            · exact absurd h HGB.out
                      · have hql' : ¬ (q : Int) < (R.length : Int) := by omega
                        have hqe : q = R.length := by omega
                        go_wp2_with fail
                        refine ⟨⟨i + 1, I', k + 1, l', by rw [Int.natCast_add]; rfl, by omega, rfl, by rw [Int.natCast_add]; rfl, by omega, hl', HQ.out.1, ?_, HQ.out.2.1, HQ.out.2.2.1, fun u hu => ?_⟩, by simp [intOf]; omega⟩
                        · rw [count_next, HBT.out, HI.out.2.1]; rfl
                        · rw [HQ.out.2.2.2 u hu, hqe, HR.out.1, HEE.out]
                          exact Hit.row
                · have hil' : ¬ (i : Int) < (bb.length : Int) := by omega
                  have hie : i = bb.length := by omega
                  have hlaw := split_law (G := G) (I := I) HV.out.1 (b := b) (bb := bb) (by rw [← HBL.out]; exact HD.out.1) (s := s) hs1 (by rw [← HP.out.1]; exact hsP) (by rw [← hie]; exact HI.out.2.2.2.2) HX3.out.2.2.1
                  rw [← HI.out.2.2.1, ← hie, ← HI.out.2.1] at hlaw
                  have hlk : decide (l ≤ k) = false := by rw [decide_eq_false_iff_not]; omega
                  go_wp2_with fail
                  exact ⟨⟨s + 1, by rw [Int.natCast_add]; rfl, by omega, by omega, HSS.out.trans (HI.out.1.mono HSS.out.size)⟩, by simp [intOf]; omega⟩
            · have hsc : ¬ (s : Int) < wrap64 (wrap64 (2 ^ bb.length) - 1) := by rw [HP.out.2]; omega
              go_wp2_with fail
              exact ⟨⟨b + 1, by rw [Int.natCast_add]; rfl, by omega, HW.out.trans (HSS.out.mono HW.out.size)⟩, by simp [intOf]; omega⟩
      · have hbl' : ¬ (b : Int) < (bl.length : Int) := by omega
        go_wp2_with fail
        refine c_awake.mono ?_
        rintro ex w4 ⟨rfl, hb4⟩
        have HX4 := Lib.hid ((HX3.out.1.trans (HW.out.mono HX3.out.1.size)).trans (hb4.mono (HX3.out.1.trans (HW.out.mono HX3.out.1.size)).size))
        clear hb4
        go_wp2_with fail
        go_ret
        exact ⟨rfl, HX4.out⟩
end
end Go.Proofs.Ytmfcefakpfbaoaa.PMatch
