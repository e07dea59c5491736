/- Lemmas for RowBltOrder. -/
import Derived.Test.YtmfcefakpfbaoaaZBmM
import Derived.Test.YtmfcefakpfbaoaaZBmN
import Derived.Test.YtmfcefakpfbaoaaZBmS
section
set_option linter.unusedVariables false
set_option linter.unusedSimpArgs false
namespace Go.Proofs.Ytmfcefakpfbaoaa.PMatch
open Go.RowKit Go.Proofs.YtmfcefakpfbaoaaW.PrintWords Go.Proofs.YtmfcefakpfbaoaaW.PrintLast Go.Proofs.YtmfcefakpfbaoaaW.PrintMore
open Blt (ints blocksB needsB levelsB)
section
variable {E : List ByteArray} {U : List S47} {J : List (List Int)} {m : List Int}
theorem Solv.sur (h : Solv E U J m) {u : Int} (h0 : 0 ≤ u) (h1 : u < U.length) : ∃ f : Nat, f < E.length ∧ rd m f = u := by
  have hP : Parts E.length (blocksB E.length (ndB J m)) (blkI (blocksB E.length (ndB J m))) := parts_blocks
  have hnu : E.length = U.length := h.has.1
  have hQ := (parts_uses hP (fun i b hb => ((Blt.blocksB_spec).rises i b hb).imp (fun h => by omega)) (fun e he => by have := h.ns e he; rw [hnu]; exact this) h.inj).1
  have h2 := hQ.all u.toNat (by omega)
  rw [List.mem_flatten] at h2
  obtain ⟨c, hc, h3⟩ := h2
  obtain ⟨b, hb, rfl⟩ := List.mem_map.1 hc
  obtain ⟨f, hf, h4⟩ := mem_usesN.1 h3
  obtain ⟨i, hi⟩ := List.getElem?_of_mem hb
  have hfn := hP.lt i b hi f hf
  have := h.ns f hfn
  exact ⟨f, hfn, by omega⟩
theorem Solv.use_of (h : Solv E U J m) {i q : Nat} (hi : i < E.length) (hq : q < (rd_L4 J i).length) : ∃ f : Nat, f < E.length ∧ rd (rd_L4 J i) q = rd m f ∧ (f = i ∨ ndB J m i f = true) := by
  have h1 := (h.valid.rows i (by rw [h.valid.len]; exact hi)).1 q hq
  obtain ⟨f, hf, h2⟩ := h.sur h1.1 h1.2.1
  refine ⟨f, hf, h2.symm, ?_⟩
  by_cases hfi : f = i
  · exact .inl hfi
  · right
    unfold ndB
    rw [Bool.and_eq_true, bne_iff_ne, decide_eq_true_eq]
    exact ⟨hfi, mem_rd.2 ⟨q, hq, h2.symm⟩⟩
theorem mem_ints {l : List Nat} {b : Nat} : ((b : Nat) : Int) ∈ ints l ↔ b ∈ l := by
  rw [ints, List.mem_map]
  constructor
  · rintro ⟨a, h, e⟩
    obtain rfl : a = b := Int.ofNat.inj e
    exact h
  · exact fun h => ⟨b, h, rfl⟩
theorem blk_lt {n : Nat} {nd : Nat → Nat → Bool} {e : Nat} (he : e < n) : blkI (blocksB n nd) e < (blocksB n nd).length := by
  obtain ⟨i, b, hb, h⟩ := (Blt.blocksB_spec (n := n) (nd := nd)).all e he
  rw [parts_blocks.at_ i b hb e h]
  exact (List.getElem?_eq_some_iff.1 hb).1
variable {A0 : Option Addr} {c0 : Nat} {A1 : Option Addr} {c1 : Nat} {A2 : Option Addr} {c2 : Nat} {w : World}
set_option maxRecDepth 100000 in
set_option maxHeartbeats 4000000 in
theorem c_BltOrder (h0 : Kd.C Kd.string w A0 E.length E) (hc0 : E.length ≤ c0) (h1 : Kd.C k47 w A1 U.length U) (hc1 : U.length ≤ c1)
    (h2 : Kd.C (Kd.slice 3 (Kd.int .i64)) w A2 J.length J) (hc2 : J.length ≤ c2) :
    Calls Try.prog 3 #[.agg #[.slice A0 E.length c0, .slice A1 U.length c1, .slice A2 J.length c2]] w fun e w' => e = .returned (.bool true) ∧ Below w.heap.size w w' := by
  have hb1 : Below w.heap.size w (w.alloc (.cells #[.slice A0 E.length c0, .slice A1 U.length c1, .slice A2 J.length c2] 26)) := (Below.refl _ _).alloc (Nat.le_refl _) _
  have hsv := c_solved (c0 := c0) (c1 := c1) (c2 := c2) (Kd.C_below h0 hb1) hc0 (Kd.C_below h1 hb1) hc1 (Kd.C_below h2 hb1) hc2
  have HC := Lib.hid hsv
  have HG := Lib.hid (And.intro h0 (And.intro hc0 (And.intro h1 (And.intro hc1 (And.intro h2 hc2)))))
  have HB := Lib.hid hb1
  have hu26 := Try.underlying26
  have hs1 : (w.alloc (.cells #[.slice A0 E.length c0, .slice A1 U.length c1, .slice A2 J.length c2] 26)).heap.size = w.heap.size + 1 := by simp
  have HS := Lib.hid hs1
  clear h0 hc0 h1 hc1 h2 hc2 hb1 hsv hs1
  go_enter Try.func3, Try.ntmps3
  go_wp2_with fail
  refine HC.out.mono ?_
  rintro ex w2 ⟨hb2, hor⟩
  rw [HS.out] at hb2
  have hcell : ∀ (i : Nat) (v : Value), #[Value.slice A0 E.length c0, .slice A1 U.length c1, .slice A2 J.length c2][i]? = some v → w2.cell? ⟨w.heap.size, i, none⟩ = some v := fun i v hv => (hb2.cell (by exact Nat.lt_succ_self _)).trans (by rw [World.cell?_alloc_at _ _ _ _ rfl]; exact hv)
  have g0 := hcell 0 _ rfl
  have g1 := hcell 1 _ rfl
  have g2 := hcell 2 _ rfl
  have HX := Lib.hid (HB.out.trans (hb2.mono (Nat.le_succ _)))
  clear hb2 hcell
  rcases hor with rfl | ⟨m, A, c, hs, rfl, hc, hC⟩
  · go_wp2_with fail
    refine c_awake.mono ?_
    rintro ex w3 ⟨rfl, hb3⟩
    have HX3 := Lib.hid (HX.out.trans (hb3.mono HX.out.size))
    clear hb3
    go_wp2_with fail
    go_ret
    exact ⟨rfl, HX3.out⟩
  · have HV := Lib.hid (And.intro hs (And.intro hc hC))
    have hEl : E.length ≤ 14 := hs.small
    have hJl : J.length = E.length := hs.valid.len
    have hUl : U.length = E.length := hs.has.1.symm
    clear hs hc hC
    have HJ := Lib.hid (And.intro hJl hUl)
    clear hJl hUl
    go_wp2_with fail
    refine (c_blocks_of HV.out.1 (Kd.C_below HG.out.1 HX.out) (Kd.C_below HG.out.2.2.1 HX.out) HV.out.2.2).mono ?_
    rintro ex w3 ⟨g7, g8, F, G, rfl, hb3, r7, r8, hF, hGG⟩
    have g0' := pw_cell_below hb3 g0
    have g1' := pw_cell_below hb3 g1
    have g2' := pw_cell_below hb3 g2
    have HX3 := Lib.hid (And.intro (HX.out.trans (hb3.mono HX.out.size)) (And.intro r7 (And.intro r8 (And.intro hF hGG))))
    clear hb3 r7 r8 hF hGG
    go_wp2_with fail
    refine (c_Levels HV.out.1.valid HV.out.1.matched HV.out.1.has (Kd.C_below HG.out.1 HX3.out.1) HG.out.2.1 (Kd.C_below HG.out.2.2.1 HX3.out.1) HG.out.2.2.2.1 (Kd.C_below HG.out.2.2.2.2.1 HX3.out.1) HG.out.2.2.2.2.2).mono ?_
    rintro ex w4 ⟨A4, c4, rfl, hb4, hc4, hC4⟩
    have k0 := pw_cell_below hb4 g0'
    have k1 := pw_cell_below hb4 g1'
    have k2 := pw_cell_below hb4 g2'
    have HX4 := Lib.hid (And.intro (HX3.out.1.trans (hb4.mono HX3.out.1.size)) (And.intro (HX3.out.2.1.below hb4) (And.intro (HX3.out.2.2.1.below hb4) (And.intro hc4 hC4))))
    clear hb4 hc4 hC4 g0' g1' g2' g0 g1 g2
    go_wp2_with fail
    refine (c_Needs HV.out.1.valid HV.out.1.matched HV.out.1.has (Kd.C_below HG.out.1 HX4.out.1) HG.out.2.1 (Kd.C_below HG.out.2.2.1 HX4.out.1) HG.out.2.2.2.1 (Kd.C_below HG.out.2.2.2.2.1 HX4.out.1) HG.out.2.2.2.2.2).mono ?_
    rintro ex w5 ⟨A5, c5, rfl, hb5, hc5, hC5⟩
    have g0 := pw_cell_below hb5 k0
    have g1 := pw_cell_below hb5 k1
    have g2 := pw_cell_below hb5 k2
    have HX5 := Lib.hid (And.intro (HX4.out.1.trans (hb5.mono HX4.out.1.size)) (And.intro (HX4.out.2.1.below hb5) (And.intro (HX4.out.2.2.1.below hb5) (And.intro (Kd.C_below HX4.out.2.2.2.2 hb5) (And.intro hc5 hC5)))))
    have HGX := Lib.hid (And.intro g0 (And.intro g1 g2))
    clear hb5 hc5 hC5 k0 k1 k2
    obtain ⟨N, hN⟩ : ∃ N, N = (blocksB E.length (ndB J m)).length := ⟨_, rfl⟩
    have HN := Lib.hid hN
    have hF := HX3.out.2.2.2.1
    have hGG := HX3.out.2.2.2.2
    have HFG := Lib.hid (And.intro hF hGG)
    clear hF hGG
    rw [← hN]
    have hNE : N ≤ 14 := by
      have h1 := List.length_filter_le (Blt.leadB E.length (ndB J m)) (List.range E.length)
      rw [hN, Blt.blocksB_len, Blt.blocks0, List.length_map]
      rw [List.length_range] at h1
      omega
    clear hN
    go_wp2_with fail
    go_loopw [11] (fun v W => ∃ i : Nat, v = .int .i64 i ∧ i ≤ E.length ∧ Below w5.heap.size w5 W) (fun v _ => E.length - (intOf v).toNat)
    case atStart => exact ⟨0, rfl, Nat.zero_le _, Below.refl _ _⟩
    case round =>
      obtain ⟨i, rfl, hi, hbw⟩ := hrel
      obtain ⟨wo, rfl⟩ : ∃ x, x = wr := ⟨_, rfl⟩
      have k0 := pw_cell_below hbw HGX.out.1
      have k2 := pw_cell_below hbw HGX.out.2.2
      have HW := Lib.hid hbw
      clear hbw g0 g1 g2
      by_cases hil : i < E.length
      · have hil' : (i : Int) < (E.length : Int) := by omega
        have hi0 : (0 : Int) ≤ (i : Int) := by omega
        obtain ⟨ad, B, d, hA, h7, h8, h9⟩ := at_L4 (Kd.C_below (Kd.C_below HG.out.2.2.2.2.1 HX5.out.1) HW.out) (i : Int) hi0 (by rw [HJ.out.1]; exact hil')
        rw [Int.toNat_natCast] at h7
        obtain ⟨R, hR⟩ : ∃ R, R = rd_L4 J i := ⟨_, rfl⟩
        rw [← hR] at h7 h8 h9
        have hmxR := Kd.C_max h9
        have HR := Lib.hid (And.intro hR (And.intro h9 (And.intro hA h7)))
        have hiJ : (i : Int) < (J.length : Int) := by rw [HJ.out.1]; exact hil'
        subst hA
        clear hR h8 h9
        go_wp2_with fail
        go_loopw [12] (fun v W => ∃ q : Nat, v = .int .i64 q ∧ q ≤ R.length ∧ Below wo.heap.size wo W) (fun v _ => R.length - (intOf v).toNat)
        case atStart => exact ⟨0, rfl, Nat.zero_le _, Below.refl _ _⟩
        case round =>
          obtain ⟨q, rfl, hq, hbq⟩ := hrel
          obtain ⟨wi, rfl⟩ : ∃ x, x = wr := ⟨_, rfl⟩
          have m2 := pw_cell_below hbq k2
          have m7 := pw_cell_below hbq h7
          have HQ := Lib.hid (And.intro hbq (And.intro k0 (And.intro k2 h7)))
          clear hbq k0 k2 h7
          by_cases hql : q < R.length
          · have hql' : (q : Int) < (R.length : Int) := by omega
            have hq0 : (0 : Int) ≤ (q : Int) := by omega
            obtain ⟨f, hf, hu, hfi⟩ := HV.out.1.use_of hil (by rw [← HR.out.1]; exact hql)
            rw [← HR.out.1] at hu
            have hfu := HV.out.1.ns f hf
            rw [← hu] at hfu
            have hlaw := order_law (n := E.length) (nd := ndB J m) hil hf hfi
            obtain ⟨ad2, hA2, hc2⟩ := Kd.at_int (Kd.C_below HR.out.2.1 HQ.out.1) (q : Int) hq0 hql'
            subst hA2
            rw [Int.toNat_natCast] at hc2
            obtain ⟨u, hue⟩ : ∃ u, u = rd R q := ⟨_, rfl⟩
            rw [← hue] at hc2 hfu hu
            have hc7 := ((HX5.out.2.1.below HW.out).below HQ.out.1).cell i hil
            have hc8 := ((HX5.out.2.2.1.below HW.out).below HQ.out.1).cell u.toNat (by omega)
            rw [HFG.out.1 i hil] at hc7
            rw [hu, HFG.out.2 f hf, ← hu] at hc8
            have hu0 := hfu.1
            have hu1 := hfu.2
            have hbi : blkI (blocksB E.length (ndB J m)) i < N := by rw [HN.out]; exact blk_lt hil
            have hbf : blkI (blocksB E.length (ndB J m)) f < N := by rw [HN.out]; exact blk_lt hf
            obtain ⟨a, ha⟩ : ∃ a, a = blkI (blocksB E.length (ndB J m)) i := ⟨_, rfl⟩
            obtain ⟨b, hb⟩ : ∃ b, b = blkI (blocksB E.length (ndB J m)) f := ⟨_, rfl⟩
            rw [← ha] at hc7 hlaw hbi
            rw [← hb] at hc8 hlaw hbf
            have HL := Lib.hid hlaw.2
            have hba := hlaw.1
            clear hlaw hue hu hfu ha hb
            by_cases hab : b = a
            · subst hab
              go_wp2_with fail
              go_quiet (fail)
              go_wp2_with fail
              go_quiet (fail)
              go_wp2_with fail
              exact ⟨⟨q + 1, by rw [Int.natCast_add]; rfl, by omega, pw_below_drewN HQ.out.1 _⟩, by simp [intOf]; omega⟩
            · have hlt : b < a := by omega
              have hle : (b : Int) < (a : Int) := by omega
              have hgt : decide (a < b) = false := by rw [decide_eq_false_iff_not]; omega
              have hm := HL.out hlt
              have hCl := Kd.C_below (Kd.C_below HX5.out.2.2.2.1 HW.out) HQ.out.1
              rw [← HN.out] at hCl
              obtain ⟨ad4, hA4, hc4⟩ := Kd.at_int hCl (a : Int) (by omega) (by omega)
              obtain ⟨ad4', hA4', hc4'⟩ := Kd.at_int hCl (b : Int) (by omega) (by omega)
              rw [hA4] at hA4'
              obtain rfl := Option.some.inj hA4'
              subst hA4
              rw [Int.toNat_natCast, rd_int] at hc4 hc4'
              obtain ⟨la, hla⟩ : ∃ la, la = (levelsB (needsB E.length (ndB J m))).getD a 0 := ⟨_, rfl⟩
              obtain ⟨lb, hlb⟩ : ∃ lb, lb = (levelsB (needsB E.length (ndB J m))).getD b 0 := ⟨_, rfl⟩
              rw [← hla] at hc4 hm
              rw [← hlb] at hc4' hm
              have hlv : decide (la ≤ lb) = false := by rw [decide_eq_false_iff_not]; omega
              have hCn := Kd.C_below (Kd.C_below HX5.out.2.2.2.2.2 HW.out) HQ.out.1
              rw [← HN.out] at hCn
              obtain ⟨ad5, B5, d5, hA5, hc5, hd5, hC5⟩ := at_L4 hCn (a : Int) (by omega) (by omega)
              subst hA5
              rw [Int.toNat_natCast, rd_ints] at hc5
              rw [rd_ints] at hC5
              obtain ⟨nb, hnb⟩ : ∃ nb, nb = (needsB E.length (ndB J m)).getD a [] := ⟨_, rfl⟩
              rw [← hnb] at hc5 hC5 hm
              have hin : decide ((b : Int) ∈ ints nb) = true := decide_eq_true (mem_ints.2 hm.1)
              have HCL := Lib.hid (And.intro hC5 hin)
              have ha0 : (0 : Int) ≤ (a : Int) := by omega
              have hb0 : (0 : Int) ≤ (b : Int) := by omega
              have ha1 : (a : Int) < (N : Int) := by omega
              have hb1 : (b : Int) < (N : Int) := by omega
              clear hm hla hlb hnb hin hd5 hC5 hCn hCl
              go_wp2_with fail
              go_quiet (fail)
              go_wp2_with fail
              go_quiet ((go_at_call 14; refine (c_in (Kd.C_drewN HCL.out.1 _)).mono ?_; rintro e w' ⟨rfl, rfl⟩; rw [HCL.out.2]; exact ⟨rfl, _, rfl⟩))
              go_wp2_with fail
              exact ⟨⟨q + 1, by rw [Int.natCast_add]; rfl, by omega, pw_below_drewN HQ.out.1 _⟩, by simp [intOf]; omega⟩
          · have hql' : ¬ (q : Int) < (R.length : Int) := by omega
            go_wp2_with fail
            exact ⟨⟨i + 1, by rw [Int.natCast_add]; rfl, by omega, HW.out.trans (HQ.out.1.mono HW.out.size)⟩, by simp [intOf]; omega⟩
      · have hil' : ¬ (i : Int) < (E.length : Int) := by omega
        have HWW := Lib.hid (HX5.out.1.trans (HW.out.mono HX5.out.1.size))
        go_wp2_with fail
        go_loopw [15] (fun v W => ∃ b : Nat, v = .int .i64 b ∧ b ≤ N ∧ W = wo) (fun v _ => N - (intOf v).toNat)
        case atStart => exact ⟨0, rfl, Nat.zero_le _, rfl⟩
        case round =>
          obtain ⟨b, rfl, hb, rfl⟩ := hrel
          by_cases hbl : b < N
          · have hbl' : (b : Int) < (N : Int) := by omega
            have hb0 : (0 : Int) ≤ (b : Int) := by omega
            have hCl := Kd.C_below HX5.out.2.2.2.1 HW.out
            rw [← HN.out] at hCl
            obtain ⟨ad4, hA4, hc4⟩ := Kd.at_int hCl (b : Int) hb0 hbl'
            subst hA4
            rw [Int.toNat_natCast, rd_int] at hc4
            have hCn := Kd.C_below HX5.out.2.2.2.2.2 HW.out
            rw [← HN.out] at hCn
            obtain ⟨ad5, B5, d5, hA5, hc5, hd5, hC5⟩ := at_L4 hCn (b : Int) hb0 hbl'
            subst hA5
            rw [Int.toNat_natCast, rd_ints, ints_len] at hc5
            have hnl : b < (needsB E.length (ndB J m)).length := by rw [(Blt.sorted_spec).len, ← HN.out]; exact hbl
            have hnb : (needsB E.length (ndB J m))[b]? = some ((needsB E.length (ndB J m)).getD b []) := by rw [List.getD_eq_getElem?_getD, List.getElem?_eq_getElem hnl]; rfl
            have hz := level_zero hnb
            obtain ⟨l, hl⟩ : ∃ l, l = (needsB E.length (ndB J m)).getD b [] := ⟨_, rfl⟩
            obtain ⟨lv, hlv⟩ : ∃ lv, lv = (levelsB (needsB E.length (ndB J m))).getD b 0 := ⟨_, rfl⟩
            rw [← hl] at hc5 hz
            rw [← hlv] at hc4 hz
            have hmx : l.length ≤ 9223372036854775807 := by
              have := Kd.C_max hC5
              rw [rd_ints, ints_len, ← hl] at this
              exact this
            clear hl hlv hnb hnl hCl hCn hC5 hd5
            by_cases hz0 : 0 < lv
            · have hl0 : 0 < l.length := List.length_pos_iff.2 (hz.1 hz0)
              have c1 : (0 : Int) < (lv : Int) := by omega
              have c2 : ((l.length : Int) == 0) = false := beq_eq_false_iff_ne.2 (by omega)
              have c3 : ((lv : Int) == 0) = false := beq_eq_false_iff_ne.2 (by omega)
              have c4 : ¬ (l.length : Int) = 0 := by omega
              have c5 : ¬ (lv : Int) = 0 := by omega
              clear hz
              go_wp2_with fail
              exact ⟨⟨b + 1, by rw [Int.natCast_add]; rfl, by omega, by first | trivial | rfl⟩, by simp [intOf]; omega⟩
            · have hl0 : l.length = 0 := by
                cases l with
                | nil => rfl
                | cons x l => exact absurd (hz.2 (by simp)) hz0
              have hlv0 : lv = 0 := by omega
              clear hz
              subst hlv0
              rw [hl0] at hc5
              clear hl0 hmx
              go_wp2_with fail
              exact ⟨⟨b + 1, by rw [Int.natCast_add]; rfl, by omega, by first | trivial | rfl⟩, by simp [intOf]; omega⟩
          · have hbl' : ¬ (b : Int) < (N : Int) := by omega
            go_wp2_with fail
            refine c_awake.mono ?_
            rintro ex w3 ⟨rfl, hb3⟩
            have HX3 := Lib.hid (HWW.out.trans (hb3.mono HWW.out.size))
            clear hb3
            go_wp2_with fail
            go_ret
            exact ⟨rfl, HX3.out⟩
end
end Go.Proofs.Ytmfcefakpfbaoaa.PMatch
end
