/- Lemmas for RowBltAny. -/
import Derived.Test.YtmfcefakpfbaoaaZBmD
section
set_option linter.unusedVariables false
set_option linter.unusedSimpArgs false
namespace Go.Proofs.Ytmfcefakpfbaoaa.PMatch
open Go.RowKit Go.Proofs.YtmfcefakpfbaoaaW.PrintWords Go.Proofs.YtmfcefakpfbaoaaW.PrintLast Go.Proofs.YtmfcefakpfbaoaaW.PrintMore
open Blt (ints blocks0 Blocks seqB blocksB needsB)
def partK : Kd (List ByteArray × List S47) := Kd.pair (Kd.slice 9 Kd.string) (Kd.slice 47 k47)
def usesOf (m : List Int) (b : List Nat) : List Int := (b.map fun (e : Nat) => rd m (e : Int)).mergeSort leI
def partOf (E : List ByteArray) (U : List S47) (m : List Int) (b : List Nat) : List ByteArray × List S47 := (b.map fun e => E.getD e ByteArray.empty, (usesOf m b).map fun u => rd_T47 U u)
theorem info9 : (Try.prog.info? 9).map (fun i => (i.zero, i.size, i.bytes)) = some (some (.string ByteArray.empty), 1, 16) := by kernel_rfl
theorem info47 : (Try.prog.info? 47).map (fun i => (i.zero, i.size, i.bytes)) = some (some (.agg #[.string ByteArray.empty, .int .i64 0, .bool false]), 3, 32) := by kernel_rfl
theorem info42 : (Try.prog.info? 42).map (fun i => (i.zero, i.size, i.bytes)) = some (some (.agg #[.slice none 0 0, .slice none 0 0]), 2, 48) := by kernel_rfl
section
variable {E : List ByteArray} {U : List S47} {J : List (List Int)} {m : List Int} {A0 : Option Addr} {c0 : Nat} {A1 : Option Addr} {c1 : Nat} {A2 : Option Addr} {c2 : Nat} {w : World}
set_option maxRecDepth 100000 in
set_option maxHeartbeats 4000000 in
theorem c_Blocks (hv : Valid E U J) (hm : Matched E U J m) (hh : Has E U m) (h0 : Kd.C Kd.string w A0 E.length E) (hc0 : E.length ≤ c0) (h1 : Kd.C k47 w A1 U.length U) (hc1 : U.length ≤ c1)
    (h2 : Kd.C (Kd.slice 3 (Kd.int .i64)) w A2 J.length J) (hc2 : J.length ≤ c2) :
    Calls Try.prog 16 #[.agg #[.slice A0 E.length c0, .slice A1 U.length c1, .slice A2 J.length c2]] w fun e w' => ∃ A c, e = .returned (.tuple #[.slice A (blocksB E.length (ndB J m)).length c, .int .i64 0]) ∧ Below w.heap.size w w' ∧ (blocksB E.length (ndB J m)).length ≤ c ∧
      Kd.C partK w' A (blocksB E.length (ndB J m)).length ((blocksB E.length (ndB J m)).map (partOf E U m)) := by
  have hb1 : Below w.heap.size w (w.alloc (.cells #[.slice A0 E.length c0, .slice A1 U.length c1, .slice A2 J.length c2] 26)) := (Below.refl _ _).alloc (Nat.le_refl _) _
  have hs := c_sort_yes hv hm hh h0 hc0 h1 hc1 h2 hc2 hb1
  have hE := hv.hE
  have hml : m.length = E.length := (hv.out hm).len
  have hmu : ∀ e : Nat, e < E.length → 0 ≤ rd m e ∧ rd m e < U.length := fun e he => by
    have h3 : rd m e ∈ m := by
      rw [rd, Int.toNat_natCast, List.getD_eq_getElem?_getD, List.getElem?_eq_getElem (by omega)]; exact List.getElem_mem _
    rcases (hv.out hm).row e he with h4 | ⟨⟨j, hj, h5⟩, _⟩
    · rw [h4] at h3; exact absurd h3 hh.2
    · have h6 := (hv.rows e (by rw [hv.len]; exact he)).1 j hj
      rw [h5] at h6
      exact ⟨h6.1, h6.2.1⟩
  have HS := Lib.hid hs
  have HB := Lib.hid hb1
  have HGR := Lib.hid (And.intro h0 (And.intro h1 (And.intro hml hmu)))
  have hu26 := Try.underlying26
  have hu42 := Try.underlying42
  clear hv hm hh h0 hc0 h1 hc1 h2 hc2 hs hb1 hml hmu
  obtain ⟨bl, hbl⟩ : ∃ bl, bl = blocksB E.length (ndB J m) := ⟨_, rfl⟩
  have hNl : bl.length ≤ 120 := by
    have h1 := List.length_filter_le (Blt.leadB E.length (ndB J m)) (List.range E.length)
    rw [hbl, Blt.blocksB_len, blocks0, List.length_map]
    rw [List.length_range] at h1
    omega
  have hbln : ∀ (i : Nat) (b : List Nat), bl[i]? = some b → b.length ≤ 120 ∧ ∀ e ∈ b, e < E.length := fun i b hb => by
    rw [hbl] at hb
    have := block_len ((Blt.blocksB_spec).rises i b hb) ((Blt.blocksB_spec).lt i b hb)
    exact ⟨by omega, (Blt.blocksB_spec).lt i b hb⟩
  have HBL := Lib.hid (And.intro hbl hbln)
  rw [← hbl]
  clear hbl hbln
  go_enter Try.func16, Try.ntmps16
  go_wp2_with fail
  refine HS.out.mono ?_
  rintro ex w2 ⟨sb, rfl, hb2, hsb, hsrt⟩
  have hs1 : (w.alloc (.cells #[.slice A0 E.length c0, .slice A1 U.length c1, .slice A2 J.length c2] 26)).heap.size = w.heap.size + 1 := by simp
  rw [hs1] at hb2 hsb
  have g0 : w2.cell? ⟨w.heap.size, 0, none⟩ = some (.slice A0 E.length c0) := (hb2.cell (by exact Nat.lt_succ_self _)).trans (by rw [World.cell?_alloc_at _ _ _ _ rfl]; rfl)
  have g1 : w2.cell? ⟨w.heap.size, 1, none⟩ = some (.slice A1 U.length c1) := (hb2.cell (by exact Nat.lt_succ_self _)).trans (by rw [World.cell?_alloc_at _ _ _ _ rfl]; rfl)
  obtain ⟨A, c, hc4, hle, hC⟩ := hsrt.blocks
  obtain ⟨Am, cm, hc3, hlm, hCm⟩ := hsrt.use
  rw [← HBL.out.1] at hc4 hle hC
  have hBw2 : Below w.heap.size w w2 := HB.out.trans (hb2.mono (Nat.le_succ _))
  have HX := Lib.hid (And.intro hBw2 (And.intro hC hCm))
  have hwl := World.block_lt_of_cell? _ _ g0
  have hsl := World.block_lt_of_cell? _ _ hc4
  clear hb2 hle hC hCm hsrt hs1 hBw2
  go_wp2_with fail
  go_loopw [6, 28] (fun x v W => ∃ i : Nat, v = .int .i64 i ∧ i ≤ bl.length ∧ Below w2.heap.size w2 W ∧ partK.R 42 W w2.heap.size (fun _ => True) x ((bl.take i).map (partOf E U m))) (fun _ v _ => bl.length - (intOf v).toNat)
  case atStart => exact ⟨0, rfl, Nat.zero_le _, Below.refl _ _, Kd.R_nil _ _ _ _ _⟩
  case round =>
    obtain ⟨i, rfl, hi, hBw, hR⟩ := hrel
    obtain ⟨wi, rfl⟩ : ∃ x, x = wr := ⟨_, rfl⟩
    obtain ⟨Ax, cx, rfl⟩ := Kd.R_slice hR
    have hxl : ((bl.take i).map (partOf E U m)).length = i := by rw [List.length_map, List.length_take]; omega
    rw [hxl] at hR ⊢
    have HR := Lib.hid (And.intro hBw (And.intro hR hxl))
    clear hBw hR hxl
    by_cases hil : i < bl.length
    · have hil' : (i : Int) < (bl.length : Int) := by omega
      have hi0 : (0 : Int) ≤ (i : Int) := by omega
      obtain ⟨ad, A1', cc, hA, h7, h8, h9⟩ := at_L4 (Kd.C_below HX.out.2.1 HR.out.1) (i : Int) hi0 hil'
      subst hA
      rw [Int.toNat_natCast, rd_ints, ints_len] at h7
      rw [rd_ints, ints_len] at h9
      have hgi : bl[i]? = some (bl.getD i []) := by rw [List.getD_eq_getElem?_getD, List.getElem?_eq_getElem hil]; rfl
      obtain ⟨b, hb⟩ : ∃ b, b = bl.getD i [] := ⟨_, rfl⟩
      rw [← hb] at h7 h9 hgi
      have hbl := (HBL.out.2 i b hgi).1
      have g0i := pw_cell_below HR.out.1 g0
      have g1i := pw_cell_below HR.out.1 g1
      have c3i := pw_cell_below HR.out.1 hc3
      have hszi : w2.heap.size ≤ wi.heap.size := HR.out.1.size
      have hwi : w.heap.size < wi.heap.size := by omega
      have hsi : sb < wi.heap.size := by omega
      have HG := Lib.hid (And.intro hgi (And.intro h9 (And.intro (show bl.take (i + 1) = bl.take i ++ [b] by rw [List.take_add_one, hgi]; rfl) (HBL.out.2 i b hgi).2)))
      clear h8 h9 hb hgi
      go_wp2_with fail
      go_loopw [10, 34] (fun x v W => ∃ q : Nat, v = .int .i64 q ∧ q ≤ b.length ∧ ∃ ve, Below wi.heap.size wi W ∧ W.cell? ⟨wi.heap.size, 0, none⟩ = some ve ∧ W.frozen? ⟨wi.heap.size, 0, none⟩ = false ∧ W.cell? ⟨wi.heap.size, 1, none⟩ = some (.slice none 0 0) ∧ W.frozen? ⟨wi.heap.size, 1, none⟩ = false ∧
          Kd.string.R 9 W (wi.heap.size + 1) (fun _ => True) ve ((b.take q).map fun e => E.getD e ByteArray.empty) ∧ Kd.R (Kd.int .i64) 3 W (wi.heap.size + 1) (fun _ => True) x ((b.take q).map fun (e : Nat) => rd m (e : Int))) (fun _ v _ => b.length - (intOf v).toNat)
      case atStart =>
        have hs1 : (wi.alloc (.cells #[.slice none 0 0, .slice none 0 0] 42)).heap.size = wi.heap.size + 1 := by simp
        exact ⟨0, rfl, Nat.zero_le _, .slice none 0 0, (Below.refl _ _).alloc (Nat.le_refl _) _, by rw [World.cell?_alloc_at _ _ _ _ rfl]; rfl, by rw [World.frozen?_alloc_at _ _ _ _ rfl], by rw [World.cell?_alloc_at _ _ _ _ rfl]; rfl, by rw [World.frozen?_alloc_at _ _ _ _ rfl], Kd.R_nil _ _ _ _ _, Kd.R_nil _ _ _ _ _⟩
      case round =>
        obtain ⟨q, rfl, hq, ve, hBq, he0, hf0, he1, hf1, hRe, hRx⟩ := hrel
        obtain ⟨wq, rfl⟩ : ∃ x, x = wr := ⟨_, rfl⟩
        obtain ⟨Aq, cq, rfl⟩ := Kd.R_slice hRx
        have hql0 : ((b.take q).map fun (e : Nat) => rd m (e : Int)).length = q := by rw [List.length_map, List.length_take]; omega
        have hqe0 : ((b.take q).map fun e => E.getD e ByteArray.empty).length = q := by rw [List.length_map, List.length_take]; omega
        rw [hql0] at hRx ⊢
        obtain ⟨Ae, ce, rfl⟩ := Kd.R_slice hRe
        rw [hqe0] at hRe he0
        have HQ := Lib.hid (And.intro hBq (And.intro hRe (And.intro hRx (And.intro hql0 hqe0))))
        clear hRe hRx hql0 hqe0
        by_cases hql : q < b.length
        · have hql' : (q : Int) < (b.length : Int) := by omega
          have hq0 : (0 : Int) ≤ (q : Int) := by omega
          obtain ⟨ad2, hA2, hc2⟩ := Kd.at_int (Kd.C_below HG.out.2.1 HQ.out.1) (q : Int) hq0 hql'
          subst hA2
          obtain ⟨e, he⟩ : ∃ e, e = b.getD q 0 := ⟨_, rfl⟩
          rw [Int.toNat_natCast, rd_int, ← he] at hc2
          have heb : e ∈ b := by rw [he, List.getD_eq_getElem?_getD, List.getElem?_eq_getElem hql]; exact List.getElem_mem _
          have hen : e < E.length := HG.out.2.2.2 e heb
          have hen' : (e : Int) < (E.length : Int) := by omega
          have he00 : (0 : Int) ≤ (e : Int) := by omega
          have hB2q : Below w2.heap.size w2 wq := HR.out.1.trans (hBq.mono HR.out.1.size)
          obtain ⟨adE, hAE, hcE0⟩ := Kd.at_string HGR.out.1 (e : Int) he00 hen'
          subst hAE
          obtain ⟨adm, hAm, hcm0⟩ := Kd.at_int HX.out.2.2 (e : Int) he00 hen'
          subst hAm
          have hcE := pw_cell_below (HX.out.1.trans (hB2q.mono HX.out.1.size)) hcE0
          have hcm := pw_cell_below hB2q hcm0
          have hade : adE.block < wi.heap.size ∧ adm.block < wi.heap.size := by
            have h3 := World.block_lt_of_cell? _ _ hcE0
            have h4 := World.block_lt_of_cell? _ _ hcm0
            rw [add_blk] at h3 h4
            have := HX.out.1.size
            exact ⟨by omega, by omega⟩
          rw [Int.toNat_natCast] at hcm
          rw [Int.toNat_natCast, rdOf, Int.toNat_natCast] at hcE
          have HT := Lib.hid (show b.take (q + 1) = b.take q ++ [e] by rw [List.take_add_one, he, List.getD_eq_getElem?_getD, List.getElem?_eq_getElem hql]; rfl)
          obtain ⟨nm, hnm⟩ : ∃ nm, nm = E.getD e ByteArray.empty := ⟨_, rfl⟩
          rw [← hnm] at hcE
          have HNM := Lib.hid hnm
          have g0q := pw_cell_below hBq g0i
          have c3q := pw_cell_below hBq c3i
          have hszq : wi.heap.size < wq.heap.size := World.block_lt_of_cell? _ _ he0
          have hwq : w.heap.size < wq.heap.size := by omega
          have hsq : sb < wq.heap.size := by omega
          have haq : adE.block < wq.heap.size := by have := World.block_lt_of_cell? _ _ hcE; rw [add_blk] at this; exact this
          have hadm : adm.block < wq.heap.size := by have := World.block_lt_of_cell? _ _ hcm; rw [add_blk] at this; exact this
          clear hB2q he hnm hcE0 hcm0
          go_wp2_with fail
          refine OrdL.begin_ (S := fun W => W.cell? ⟨wi.heap.size, 0, none⟩ = some (.slice Ae q ce) ∧ W.cell? ⟨w.heap.size, 0, none⟩ = some (.slice (some adE) E.length c0) ∧ W.cell? (adE.add e) = some (.string nm)) [] [9, 10] (by kernel_rfl) ?_ (fun hHeld => ?_)
          focus ((try dsimp only); exact ⟨he0, g0q, hcE⟩)
          refine OrdL.take (i := 0) (d := (some 38)) (v := ?_) rfl rfl (by kernel_rfl) (by kernel_rfl) (by kernel_rfl) (by kernel_rfl) (fun _ _ _ h => h) (by assumption) ⟨by rfl, ?_⟩ ?_
          rotate_left
          focus (intro w hSw; (try dsimp only at hSw); go_simp; try with_reducible rfl)
          (try simp only [Act.put, List.getElem_toArray, List.getElem_cons_zero, List.getElem_cons_succ, List.setIfInBounds_toArray, List.set_cons_zero, List.set_cons_succ])
          refine OrdL.take (i := 1) (d := (some 39)) (v := ?_) rfl rfl (by kernel_rfl) (by kernel_rfl) (by kernel_rfl) (by kernel_rfl) (fun _ _ _ h => h) (by assumption) ⟨by rfl, ?_⟩ ?_
          rotate_left
          focus (intro w hSw; (try dsimp only at hSw); go_simp; try with_reducible rfl)
          (try simp only [Act.put, List.getElem_toArray, List.getElem_cons_zero, List.getElem_cons_succ, List.setIfInBounds_toArray, List.set_cons_zero, List.set_cons_succ])
          refine OrdL.take (i := 2) (d := (some 40)) (v := ?_) rfl rfl (by kernel_rfl) (by kernel_rfl) (by kernel_rfl) (by kernel_rfl) (fun _ _ _ h => h) (by assumption) ⟨by rfl, ?_⟩ ?_
          rotate_left
          focus (intro w hSw; (try dsimp only at hSw); go_simp; try with_reducible rfl)
          (try simp only [Act.put, List.getElem_toArray, List.getElem_cons_zero, List.getElem_cons_succ, List.setIfInBounds_toArray, List.set_cons_zero, List.set_cons_succ])
          refine OrdL.take (i := 3) (d := (some 41)) (v := ?_) rfl rfl (by kernel_rfl) (by kernel_rfl) (by kernel_rfl) (by kernel_rfl) (fun _ _ _ h => h) (by assumption) ⟨by rfl, ?_⟩ ?_
          rotate_left
          focus (intro w hSw; (try dsimp only at hSw); go_simp; try with_reducible rfl)
          (try simp only [Act.put, List.getElem_toArray, List.getElem_cons_zero, List.getElem_cons_succ, List.setIfInBounds_toArray, List.set_cons_zero, List.set_cons_succ])
          refine OrdL.take (i := 4) (d := (some 42)) (v := ?_) rfl rfl (by kernel_rfl) (by kernel_rfl) (by kernel_rfl) (by kernel_rfl) (fun _ _ _ h => h) (by assumption) ⟨by rfl, ?_⟩ ?_
          rotate_left
          focus (intro w hSw; (try dsimp only at hSw); go_simp; try with_reducible rfl)
          (try simp only [Act.put, List.getElem_toArray, List.getElem_cons_zero, List.getElem_cons_succ, List.setIfInBounds_toArray, List.set_cons_zero, List.set_cons_succ])
          refine OrdL.take (i := 5) (d := (some 43)) (v := ?_) rfl rfl (by kernel_rfl) (by kernel_rfl) (by kernel_rfl) (by kernel_rfl) (fun _ _ _ h => h) (by assumption) ⟨by rfl, ?_⟩ ?_
          rotate_left
          focus (intro w hSw; (try dsimp only at hSw); go_simp; try with_reducible rfl)
          (try simp only [Act.put, List.getElem_toArray, List.getElem_cons_zero, List.getElem_cons_succ, List.setIfInBounds_toArray, List.set_cons_zero, List.set_cons_succ])
          refine OrdL.take (i := 6) (d := (some 44)) (v := ?_) rfl rfl (by kernel_rfl) (by kernel_rfl) (by kernel_rfl) (by kernel_rfl) (fun _ _ _ h => h) (by assumption) ⟨by rfl, ?_⟩ ?_
          rotate_left
          focus (intro w hSw; (try dsimp only at hSw); go_simp; try with_reducible rfl)
          (try simp only [Act.put, List.getElem_toArray, List.getElem_cons_zero, List.getElem_cons_succ, List.setIfInBounds_toArray, List.set_cons_zero, List.set_cons_succ])
          refine OrdL.step (i := 7) rfl (by decide) (by kernel_rfl) (fun Kc hKc => ?_)
          simp only [List.getElem_toArray, List.getElem_cons_zero, List.getElem_cons_succ]
          go_simp
          go_wp2_with fail
          refine hKc.out _ _ ?_ (fun hHeld => ?_)
          focus ((try dsimp only); exact ⟨(World.cell?_alloc_lt _ _ _ (by exact hszq)).trans he0, (World.cell?_alloc_lt _ _ _ (by exact hwq)).trans g0q, (World.cell?_alloc_lt _ _ _ (by rw [add_blk]; exact haq)).trans hcE⟩)
          clear hKc Kc
          (try simp only [Act.put, List.getElem_toArray, List.getElem_cons_zero, List.getElem_cons_succ, List.setIfInBounds_toArray, List.set_cons_zero, List.set_cons_succ])
          refine OrdL.step (i := 8) rfl (by decide) (by kernel_rfl) (fun Kc hKc => ?_)
          simp only [List.getElem_toArray, List.getElem_cons_zero, List.getElem_cons_succ]
          rw [show (wq.alloc (Obj.cells #[.string nm] 9)).drew = wq.drew.alloc (Obj.cells [.string nm].toArray 9) from rfl]
          refine (if_pos (show Region.wanted _ _ = true from rfl)).mpr ?_
          refine R_append_wp Kd.string (w0 := wq.drew) (W := wq.drew) (wi.heap.size + 1) ?c1 (.tmp 39) (.tmp 45) 22 9 (.string ByteArray.empty) 16 ?c2 Try.underlying22 info9 rfl (by decide) (by decide) (.slice Ae q ce) ((b.take q).map fun e => E.getD e ByteArray.empty) nm [.string nm] (fun _ => True) (fun _ => False) ?c3 ?c4 rfl (fun _ hk => hk.elim) (fun _ _ => trivial) (Kd.R_drew HQ.out.2.1) (Below.refl _ _) hszq (by rw [HQ.out.2.2.2.2]; omega) ?_
          case c1 => rfl
          case c2 => rfl
          case c3 => rfl
          case c4 => rfl
          intro v6 w6 hr6 hB6 hg6 hat6
          obtain ⟨A6, c6, rfl⟩ := Kd.R_slice hr6
          rw [show (((b.take q).map fun e => E.getD e ByteArray.empty) ++ [nm]).length = q + 1 by rw [List.length_append, HQ.out.2.2.2.2]; rfl] at hr6 hat6 ⊢
          have hbe : ∀ k, (Value.slice Ae q ce).ownBlock = some k → wi.heap.size + 1 ≤ k := Kd.R_base HQ.out.2.1
          have k1' := (cell_grown' (a := ⟨wi.heap.size, 0, none⟩) (by exact hszq) hg6 (fun e1 => by have := hbe _ e1.symm; simp at this; omega)).trans he0
          have k2' := (cell_grown' (a := ⟨w.heap.size, 0, none⟩) (by exact hwq) hg6 (fun e1 => by have := hbe _ e1.symm; simp at this; omega)).trans g0q
          have k3' := (cell_grown' (a := adE.add e) (by rw [add_blk]; exact haq) hg6 (fun e1 => by have := hbe _ e1.symm; rw [add_blk] at this; have := hade.1; omega)).trans hcE
          have hf0' := (frozen_grown (a := ⟨wi.heap.size, 0, none⟩) (by exact hszq) hg6 (fun e1 => by have := hbe _ e1.symm; simp at this; omega)).trans (show wq.drew.frozen? ⟨wi.heap.size, 0, none⟩ = false from hf0)
          have he1' := (cell_grown' (a := ⟨wi.heap.size, 1, none⟩) (by exact hszq) hg6 (fun e1 => by have := hbe _ e1.symm; simp at this; omega)).trans (show wq.drew.cell? ⟨wi.heap.size, 1, none⟩ = some (.slice none 0 0) from he1)
          have hf1' := (frozen_grown (a := ⟨wi.heap.size, 1, none⟩) (by exact hszq) hg6 (fun e1 => by have := hbe _ e1.symm; simp at this; omega)).trans (show wq.drew.frozen? ⟨wi.heap.size, 1, none⟩ = false from hf1)
          have c3' := (cell_grown' (a := ⟨sb, 3, none⟩) (by exact hsq) hg6 (fun e1 => by have := hbe _ e1.symm; simp at this; omega)).trans (show wq.drew.cell? ⟨sb, 3, none⟩ = _ from c3q)
          have hcm' := (cell_grown' (a := adm.add e) (by rw [add_blk]; exact hadm) hg6 (fun e1 => by have := hbe _ e1.symm; rw [add_blk] at this; have := hade.2; omega)).trans (show wq.drew.cell? (adm.add e) = _ from hcm)
          have hRx6 := Kd.R_over (d := Kd.int .i64) (Kd.R_drew HQ.out.2.2.1) (Kd.R_drew HQ.out.2.1) (by decide) hg6
          have HY := Lib.hid (And.intro hr6 (And.intro hg6 hRx6))
          have hs6 : wq.heap.size ≤ w6.heap.size := hg6.size
          clear hr6 hB6 hg6 hat6 hRx6
          refine hKc.out _ _ ?_ (fun hHeld => ?_)
          focus exact ⟨k1', k2', k3'⟩
          clear hKc Kc
          (try simp only [Act.put, List.getElem_toArray, List.getElem_cons_zero, List.getElem_cons_succ, List.setIfInBounds_toArray, List.set_cons_zero, List.set_cons_succ])
          refine OrdL.last (i := 9) rfl (by decide) (by decide) (by kernel_rfl) (fun Kc hKc => ?_)
          simp only [List.getElem_toArray, List.getElem_cons_zero, List.getElem_cons_succ]
          go_simp
          refine hKc.out _ _ ?_
          clear hKc Kc
          (try simp only [Act.put, List.getElem_toArray, List.getElem_cons_zero, List.getElem_cons_succ, List.setIfInBounds_toArray, List.set_cons_zero, List.set_cons_succ])
          refine OrdL.last (i := 10) rfl (by decide) (by decide) (by kernel_rfl) (fun Kc hKc => ?_)
          simp only [List.getElem_toArray, List.getElem_cons_zero, List.getElem_cons_succ]
          go_simp
          go_wp2_with fail
          refine hKc.out _ _ ?_
          clear hKc Kc
          (try simp only [Act.put, List.getElem_toArray, List.getElem_cons_zero, List.getElem_cons_succ, List.setIfInBounds_toArray, List.set_cons_zero, List.set_cons_succ])
          refine OrdL.done (by kernel_rfl) ?_ _
          obtain ⟨w7, hw7⟩ : ∃ w7, w7 = w6.setCell ⟨wi.heap.size, 0, none⟩ (.slice A6 (q + 1) c6) := ⟨_, rfl⟩
          rw [← hw7]
          have hB7 : Below wi.heap.size wi w7 := by
            have h3 : Below wi.heap.size wi wq.drew := below_drew hBq
            have h4 := h3.grown HY.out.2.1 h3.size (fun k hk => by have := hbe k hk; omega)
            rw [hw7]
            exact h4.setCell (Nat.le_refl _) _
          have he07 : w7.cell? ⟨wi.heap.size, 0, none⟩ = some (.slice A6 (q + 1) c6) := by rw [hw7]; exact World.cell?_setCell_same _ _ _ k1'
          have hf07 : w7.frozen? ⟨wi.heap.size, 0, none⟩ = false := by rw [hw7, World.frozen?_setCell]; exact hf0'
          have he17 : w7.cell? ⟨wi.heap.size, 1, none⟩ = some (.slice none 0 0) := by rw [hw7]; exact (World.cell?_setCell_other _ _ _ _ (by simp)).trans he1'
          have hf17 : w7.frozen? ⟨wi.heap.size, 1, none⟩ = false := by rw [hw7, World.frozen?_setCell]; exact hf1'
          have c37 : w7.cell? ⟨sb, 3, none⟩ = some (.slice (some adm) E.length cm) := by rw [hw7]; exact (World.cell?_setCell_far _ _ _ _ (by simp; omega)).trans c3'
          have hcm7 : w7.cell? (adm.add e) = some (.int .i64 (rd m (e : Int))) := by rw [hw7]; exact (World.cell?_setCell_far _ _ _ _ (by rw [add_blk]; simp; have := hade.2; omega)).trans hcm'
          have hRe7 : Kd.string.R 9 w7 (wi.heap.size + 1) (fun _ => True) (.slice A6 (q + 1) c6) (((b.take q).map fun e => E.getD e ByteArray.empty) ++ [nm]) := by rw [hw7]; exact R_old HY.out.1 (Nat.lt_succ_self _) _
          have hRx7 : Kd.R (Kd.int .i64) 3 w7 (wi.heap.size + 1) (fun _ => True) (.slice Aq q cq) ((b.take q).map fun (e : Nat) => rd m (e : Int)) := by rw [hw7]; exact R_old HY.out.2.2 (Nat.lt_succ_self _) _
          have hs7 : wi.heap.size + 1 ≤ w7.heap.size := by have : w7.heap.size = w6.heap.size := by rw [hw7]; simp
                                                           omega
          have HZ := Lib.hid (And.intro hB7 (And.intro hRe7 hRx7))
          clear hw7 hB7 hRe7 hRx7 hBq
          go_wp2_with (at_builtin; go_must (refine Kd.R_append (Kd.int .i64) (w0 := w7) (wi.heap.size + 1) rfl (.tmp 48) (.tmp 56) 31 3 (.int .i64 0) 8 rfl Try.underlying31 info3 rfl (by decide) (by decide) (.slice Aq q cq) ((b.take q).map fun (e : Nat) => rd m (e : Int)) (rd m (e : Int)) [.int .i64 (rd m (e : Int))] (fun _ => True) (fun _ => False) rfl rfl rfl (fun _ hk => hk.elim) (fun _ _ => trivial) HZ.out.2.2 (Below.refl _ _) hs7 (by rw [HQ.out.2.2.2.1]; omega) ?_); intro v8 w8 hr8 hb8 hg8 hat8; have HW := Lib.hid (And.intro hr8 (And.intro hb8 hg8)); clear hr8 hb8 hg8 hat8)
          have hbx : ∀ k, (Value.slice Aq q cq).ownBlock = some k → wi.heap.size + 1 ≤ k := Kd.R_base HZ.out.2.2
          have hH7 : wi.heap.size < w7.heap.size := by omega
          have hne : some wi.heap.size ≠ (Value.slice Aq q cq).ownBlock := fun e1 => by have := hbx _ e1.symm; omega
          refine ⟨⟨q + 1, by rw [Int.natCast_add]; rfl, by omega, .slice A6 (q + 1) c6, HZ.out.1.grown HW.out.2.2 HZ.out.1.size (fun k hk => by have := hbx k hk; omega), (cell_grown' (by exact hH7) HW.out.2.2 hne).trans he07, (frozen_grown (by exact hH7) HW.out.2.2 hne).trans hf07, (cell_grown' (by exact hH7) HW.out.2.2 hne).trans he17, (frozen_grown (by exact hH7) HW.out.2.2 hne).trans hf17, ?_, ?_⟩, by simp [intOf]; omega⟩
          · rw [HT.out, List.map_append, List.map_singleton, ← HNM.out]
            exact Kd.R_over (d := Kd.string) HZ.out.2.1 HZ.out.2.2 (by decide) HW.out.2.2
          · rw [HT.out, List.map_append, List.map_singleton]
            exact HW.out.1
        · have hql' : ¬ (q : Int) < (b.length : Int) := by omega
          have hqe : q = b.length := by omega
          subst hqe
          have hbx : ∀ k, (Value.slice Aq b.length cq).ownBlock = some k → wi.heap.size + 1 ≤ k := Kd.R_base HQ.out.2.2.1
          have hHq : wi.heap.size < wq.heap.size := World.block_lt_of_cell? _ _ he0
          have hne : some wi.heap.size ≠ (Value.slice Aq b.length cq).ownBlock := fun e1 => by have := hbx _ e1.symm; omega
          obtain ⟨ul, hul⟩ : ∃ ul, ul = usesOf m b := ⟨_, rfl⟩
          have hull : ul.length = b.length := by rw [hul, usesOf, List.length_mergeSort, List.length_map]
          have hulm : ∀ j : Nat, j < b.length → ∃ u : Nat, rd ul j = (u : Int) ∧ u < U.length := fun j hj => by
            have h3 : rd ul j ∈ ul := by
              rw [rd, Int.toNat_natCast, List.getD_eq_getElem?_getD, List.getElem?_eq_getElem (by omega)]; exact List.getElem_mem _
            rw [hul, usesOf] at h3
            have h4 := (List.mergeSort_perm _ _).mem_iff.1 h3
            obtain ⟨e, he, h5⟩ := List.mem_map.1 h4
            have h6 := HGR.out.2.2.2 e (HG.out.2.2.2 e he)
            refine ⟨(rd m (e : Int)).toNat, ?_, by omega⟩
            rw [hul, usesOf, ← h5]
            omega
          have HUL := Lib.hid (And.intro hul (And.intro hull hulm))
          clear hul hull hulm
          go_wp2_with fail
          refine (c_Sort HQ.out.2.2.1 (by rw [HQ.out.2.2.2.1]; omega)).mono ?_
          rintro ex w9 ⟨rfl, hR9, hg9⟩
          have hB9 : Below wi.heap.size wi w9 := hBq.grown hg9 hBq.size (fun k hk => by have := hbx k hk; omega)
          have he09 := (cell_grown' (by exact hHq) hg9 hne).trans he0
          have hf09 := (frozen_grown (by exact hHq) hg9 hne).trans hf0
          have he19 := (cell_grown' (by exact hHq) hg9 hne).trans he1
          have hf19 := (frozen_grown (by exact hHq) hg9 hne).trans hf1
          have hRe9 := Kd.R_over (d := Kd.string) HQ.out.2.1 HQ.out.2.2.1 (by decide) hg9
          have HV := Lib.hid (And.intro hB9 (And.intro hR9 hRe9))
          have hs9 : wi.heap.size < w9.heap.size := World.block_lt_of_cell? _ _ he09
          rw [List.take_length] at hR9 hRe9
          have HV2 := Lib.hid (And.intro hR9 hRe9)
          clear hB9 hR9 hg9 hRe9 he0 hf0 he1 hf1
          go_wp2_with fail
          go_loopw [63] (fun v W => ∃ q : Nat, v = .int .i64 q ∧ q ≤ b.length ∧ ∃ vu, Below wi.heap.size wi W ∧ W.cell? ⟨wi.heap.size, 0, none⟩ = some (.slice Ae b.length ce) ∧ W.cell? ⟨wi.heap.size, 1, none⟩ = some vu ∧ W.frozen? ⟨wi.heap.size, 1, none⟩ = false ∧
              Kd.string.R 9 W (wi.heap.size + 1) (fun _ => True) (.slice Ae b.length ce) (b.map fun e => E.getD e ByteArray.empty) ∧ Kd.R (Kd.int .i64) 3 W (wi.heap.size + 1) (fun _ => True) (.slice Aq b.length cq) ul ∧ k47.R 47 W (wi.heap.size + 1) (fun _ => True) vu ((ul.take q).map fun u => rd_T47 U u)) (fun v _ => b.length - (intOf v).toNat)
          case atStart => exact ⟨0, rfl, Nat.zero_le _, .slice none 0 0, HV.out.1, he09, he19, hf19, HV2.out.2, by rw [HUL.out.1]; exact HV2.out.1, Kd.R_nil _ _ _ _ _⟩
          case round =>
            obtain ⟨q, rfl, hq, vu, hBq, he0, he1, hf1, hRe, hRx, hRu⟩ := hrel
            obtain ⟨wq, rfl⟩ : ∃ x, x = wr := ⟨_, rfl⟩
            obtain ⟨Au, cu, rfl⟩ := Kd.R_slice hRu
            have hqu0 : ((ul.take q).map fun u => rd_T47 U u).length = q := by rw [List.length_map, List.length_take, HUL.out.2.1]; omega
            rw [hqu0] at hRu he1
            have HQ2 := Lib.hid (And.intro hBq (And.intro hRe (And.intro hRx (And.intro hRu hqu0))))
            clear hRe hRx hRu hqu0
            by_cases hql : q < b.length
            · have hql' : (q : Int) < (b.length : Int) := by omega
              have hq0 : (0 : Int) ≤ (q : Int) := by omega
              have hRq := (Kd.R_reads' HQ2.out.2.2.1).2.2
              rw [HUL.out.2.1] at hRq
              obtain ⟨ad2, hA2, hc2⟩ := Kd.at_int hRq (q : Int) hq0 hql'
              subst hA2
              obtain ⟨u, hu, huU⟩ := HUL.out.2.2 q hql
              rw [Int.toNat_natCast, hu] at hc2
              have hu0 : (0 : Int) ≤ (u : Int) := by omega
              have huU' : (u : Int) < (U.length : Int) := by omega
              have hB2q : Below w2.heap.size w2 wq := HR.out.1.trans (hBq.mono HR.out.1.size)
              have hBwq : Below w.heap.size w wq := HX.out.1.trans (hB2q.mono HX.out.1.size)
              obtain ⟨adU, hAU, hU0, hU1, hU2⟩ := at_T47 HGR.out.2.1 (u : Int) hu0 huU'
              subst hAU
              have hUl := World.block_lt_of_cell? _ _ hU0
              have hU0q := pw_cell_below hBwq hU0
              have hU1q := pw_cell_below hBwq hU1
              have hU2q := pw_cell_below hBwq hU2
              obtain ⟨x, hx⟩ : ∃ x, x = rd_T47 U (u : Int) := ⟨_, rfl⟩
              rw [← hx] at hU0q hU1q hU2q
              rw [Int.toNat_natCast] at hU0q hU1q hU2q hUl
              have HT := Lib.hid (And.intro (show ul.take (q + 1) = ul.take q ++ [(u : Int)] by
                rw [← hu, rd, Int.toNat_natCast, List.take_add_one, List.getD_eq_getElem?_getD, List.getElem?_eq_getElem (by rw [HUL.out.2.1]; exact hql)]; rfl) hx)
              have g1q := pw_cell_below hBq g1i
              have hszq : wi.heap.size < wq.heap.size := World.block_lt_of_cell? _ _ he0
              have hwq : w.heap.size < wq.heap.size := by omega
              have hUl2 : (adU.add (u * 3)).block < wq.heap.size := by omega
              clear hB2q hBwq hx hu hU0 hU1 hU2 hRq
              go_wp2_with fail
              refine OrdL.begin_ (S := fun W => W.cell? ⟨wi.heap.size, 1, none⟩ = some (.slice Au q cu) ∧ W.cell? ⟨w.heap.size, 1, none⟩ = some (.slice (some adU) U.length c1) ∧ W.cell? (adU.add (u * 3)) = some (.string x.f0) ∧ W.cell? ⟨(adU.add (u * 3)).block, (adU.add (u * 3)).off + 1, none⟩ = some (.int .i64 x.f1) ∧ W.cell? ⟨(adU.add (u * 3)).block, (adU.add (u * 3)).off + 2, none⟩ = some (.bool x.f2)) [] [9, 10] (by kernel_rfl) ?_ (fun hHeld => ?_)
              focus ((try dsimp only); exact ⟨he1, g1q, hU0q, hU1q, hU2q⟩)
              refine OrdL.take (i := 0) (d := (some 67)) (v := ?_) rfl rfl (by kernel_rfl) (by kernel_rfl) (by kernel_rfl) (by kernel_rfl) (fun _ _ _ h => h) (by assumption) ⟨by rfl, ?_⟩ ?_
              rotate_left
              focus (intro w hSw; (try dsimp only at hSw); go_simp; try with_reducible rfl)
              (try simp only [Act.put, List.getElem_toArray, List.getElem_cons_zero, List.getElem_cons_succ, List.setIfInBounds_toArray, List.set_cons_zero, List.set_cons_succ])
              refine OrdL.take (i := 1) (d := (some 68)) (v := ?_) rfl rfl (by kernel_rfl) (by kernel_rfl) (by kernel_rfl) (by kernel_rfl) (fun _ _ _ h => h) (by assumption) ⟨by rfl, ?_⟩ ?_
              rotate_left
              focus (intro w hSw; (try dsimp only at hSw); go_simp; try with_reducible rfl)
              (try simp only [Act.put, List.getElem_toArray, List.getElem_cons_zero, List.getElem_cons_succ, List.setIfInBounds_toArray, List.set_cons_zero, List.set_cons_succ])
              refine OrdL.take (i := 2) (d := (some 69)) (v := ?_) rfl rfl (by kernel_rfl) (by kernel_rfl) (by kernel_rfl) (by kernel_rfl) (fun _ _ _ h => h) (by assumption) ⟨by rfl, ?_⟩ ?_
              rotate_left
              focus (intro w hSw; (try dsimp only at hSw); go_simp; try with_reducible rfl)
              (try simp only [Act.put, List.getElem_toArray, List.getElem_cons_zero, List.getElem_cons_succ, List.setIfInBounds_toArray, List.set_cons_zero, List.set_cons_succ])
              refine OrdL.take (i := 3) (d := (some 70)) (v := ?_) rfl rfl (by kernel_rfl) (by kernel_rfl) (by kernel_rfl) (by kernel_rfl) (fun _ _ _ h => h) (by assumption) ⟨by rfl, ?_⟩ ?_
              rotate_left
              focus (intro w hSw; (try dsimp only at hSw); go_simp; try with_reducible rfl)
              (try simp only [Act.put, List.getElem_toArray, List.getElem_cons_zero, List.getElem_cons_succ, List.setIfInBounds_toArray, List.set_cons_zero, List.set_cons_succ])
              refine OrdL.take (i := 4) (d := (some 71)) (v := ?_) rfl rfl (by kernel_rfl) (by kernel_rfl) (by kernel_rfl) (by kernel_rfl) (fun _ _ _ h => h) (by assumption) ⟨by rfl, ?_⟩ ?_
              rotate_left
              focus (intro w hSw; (try dsimp only at hSw); go_simp; try with_reducible rfl)
              (try simp only [Act.put, List.getElem_toArray, List.getElem_cons_zero, List.getElem_cons_succ, List.setIfInBounds_toArray, List.set_cons_zero, List.set_cons_succ])
              refine OrdL.take (i := 5) (d := (some 72)) (v := ?_) rfl rfl (by kernel_rfl) (by kernel_rfl) (by kernel_rfl) (by kernel_rfl) (fun _ _ _ h => h) (by assumption) ⟨by rfl, ?_⟩ ?_
              rotate_left
              focus (intro w hSw; (try dsimp only at hSw); go_simp; try with_reducible rfl)
              (try simp only [Act.put, List.getElem_toArray, List.getElem_cons_zero, List.getElem_cons_succ, List.setIfInBounds_toArray, List.set_cons_zero, List.set_cons_succ])
              refine OrdL.take (i := 6) (d := (some 73)) (v := ?_) rfl rfl (by kernel_rfl) (by kernel_rfl) (by kernel_rfl) (by kernel_rfl) (fun _ _ _ h => h) (by assumption) ⟨by rfl, ?_⟩ ?_
              rotate_left
              focus (intro w hSw; (try dsimp only at hSw); go_simp; try with_reducible rfl)
              (try simp only [Act.put, List.getElem_toArray, List.getElem_cons_zero, List.getElem_cons_succ, List.setIfInBounds_toArray, List.set_cons_zero, List.set_cons_succ])
              refine OrdL.step (i := 7) rfl (by decide) (by kernel_rfl) (fun Kc hKc => ?_)
              simp only [List.getElem_toArray, List.getElem_cons_zero, List.getElem_cons_succ]
              go_simp
              go_wp2_with fail
              refine hKc.out _ _ ?_ (fun hHeld => ?_)
              focus ((try dsimp only); exact ⟨(World.cell?_alloc_lt _ _ _ (by exact hszq)).trans he1, (World.cell?_alloc_lt _ _ _ (by exact hwq)).trans g1q, (World.cell?_alloc_lt _ _ _ (by exact hUl2)).trans hU0q, (World.cell?_alloc_lt _ _ _ (by exact hUl2)).trans hU1q, (World.cell?_alloc_lt _ _ _ (by exact hUl2)).trans hU2q⟩)
              clear hKc Kc
              (try simp only [Act.put, List.getElem_toArray, List.getElem_cons_zero, List.getElem_cons_succ, List.setIfInBounds_toArray, List.set_cons_zero, List.set_cons_succ])
              refine OrdL.step (i := 8) rfl (by decide) (by kernel_rfl) (fun Kc hKc => ?_)
              simp only [List.getElem_toArray, List.getElem_cons_zero, List.getElem_cons_succ]
              rw [show (wq.alloc (Obj.cells #[.string x.f0, .int .i64 x.f1, .bool x.f2] 47)).drew = wq.drew.alloc (Obj.cells [.string x.f0, .int .i64 x.f1, .bool x.f2].toArray 47) from rfl]
              refine (if_pos (show Region.wanted _ _ = true from rfl)).mpr ?_
              refine R_append_wp k47 (w0 := wq.drew) (W := wq.drew) (wi.heap.size + 1) ?c1 (.tmp 68) (.tmp 74) 23 47 (.agg #[.string ByteArray.empty, .int .i64 0, .bool false]) 32 ?c2 Try.underlying23 info47 rfl (by decide) (by decide) (.slice Au q cu) ((ul.take q).map fun u => rd_T47 U u) x [.string x.f0, .int .i64 x.f1, .bool x.f2] (fun _ => True) (fun _ => False) ?c3 ?c4 (k47_mkM _ _ _ _) (fun _ hk => hk.elim) (fun _ _ => trivial) (Kd.R_drew HQ2.out.2.2.2.1) (Below.refl _ _) hszq (by rw [HQ2.out.2.2.2.2]; omega) ?_
              case c1 => rfl
              case c2 => rfl
              case c3 => rfl
              case c4 => rfl
              intro v6 w6 hr6 hB6 hg6 hat6
              obtain ⟨A6, c6, rfl⟩ := Kd.R_slice hr6
              rw [show (((ul.take q).map fun u => rd_T47 U u) ++ [x]).length = q + 1 by rw [List.length_append, HQ2.out.2.2.2.2]; rfl] at hr6 hat6 ⊢
              have hbe : ∀ k, (Value.slice Au q cu).ownBlock = some k → wi.heap.size + 1 ≤ k := Kd.R_base HQ2.out.2.2.2.1
              have hUl3 : (adU.add (u * 3)).block < wi.heap.size := by omega
              have k1' := (cell_grown' (a := ⟨wi.heap.size, 1, none⟩) (by exact hszq) hg6 (fun e1 => by have := hbe _ e1.symm; simp at this; omega)).trans he1
              have k2' := (cell_grown' (a := ⟨w.heap.size, 1, none⟩) (by exact hwq) hg6 (fun e1 => by have := hbe _ e1.symm; simp at this; omega)).trans g1q
              have k3' := (cell_grown' (a := adU.add (u * 3)) (by exact hUl2) hg6 (fun e1 => by have := hbe _ e1.symm; omega)).trans hU0q
              have k4' := (cell_grown' (a := ⟨(adU.add (u * 3)).block, (adU.add (u * 3)).off + 1, none⟩) (by exact hUl2) hg6 (fun e1 => by have := hbe _ e1.symm; simp at this; omega)).trans hU1q
              have k5' := (cell_grown' (a := ⟨(adU.add (u * 3)).block, (adU.add (u * 3)).off + 2, none⟩) (by exact hUl2) hg6 (fun e1 => by have := hbe _ e1.symm; simp at this; omega)).trans hU2q
              have hf1' := (frozen_grown (a := ⟨wi.heap.size, 1, none⟩) (by exact hszq) hg6 (fun e1 => by have := hbe _ e1.symm; simp at this; omega)).trans (show wq.drew.frozen? ⟨wi.heap.size, 1, none⟩ = false from hf1)
              have he0' := (cell_grown' (a := ⟨wi.heap.size, 0, none⟩) (by exact hszq) hg6 (fun e1 => by have := hbe _ e1.symm; simp at this; omega)).trans (show wq.drew.cell? ⟨wi.heap.size, 0, none⟩ = _ from he0)
              have hRx6 := Kd.R_over (d := Kd.int .i64) (Kd.R_drew HQ2.out.2.2.1) (Kd.R_drew HQ2.out.2.2.2.1) (by decide) hg6
              have hRe6 := Kd.R_over (d := Kd.string) (Kd.R_drew HQ2.out.2.1) (Kd.R_drew HQ2.out.2.2.2.1) (by decide) hg6
              have HY := Lib.hid (And.intro hr6 (And.intro hg6 (And.intro hRx6 hRe6)))
              clear hr6 hB6 hg6 hat6 hRx6 hRe6
              refine hKc.out _ _ ?_ (fun hHeld => ?_)
              focus exact ⟨k1', k2', k3', k4', k5'⟩
              clear hKc Kc
              (try simp only [Act.put, List.getElem_toArray, List.getElem_cons_zero, List.getElem_cons_succ, List.setIfInBounds_toArray, List.set_cons_zero, List.set_cons_succ])
              refine OrdL.last (i := 9) rfl (by decide) (by decide) (by kernel_rfl) (fun Kc hKc => ?_)
              simp only [List.getElem_toArray, List.getElem_cons_zero, List.getElem_cons_succ]
              go_simp
              refine hKc.out _ _ ?_
              clear hKc Kc
              (try simp only [Act.put, List.getElem_toArray, List.getElem_cons_zero, List.getElem_cons_succ, List.setIfInBounds_toArray, List.set_cons_zero, List.set_cons_succ])
              refine OrdL.last (i := 10) rfl (by decide) (by decide) (by kernel_rfl) (fun Kc hKc => ?_)
              simp only [List.getElem_toArray, List.getElem_cons_zero, List.getElem_cons_succ]
              go_simp
              go_wp2_with fail
              refine hKc.out _ _ ?_
              clear hKc Kc
              (try simp only [Act.put, List.getElem_toArray, List.getElem_cons_zero, List.getElem_cons_succ, List.setIfInBounds_toArray, List.set_cons_zero, List.set_cons_succ])
              refine OrdL.done (by kernel_rfl) ?_ _
              obtain ⟨w7, hw7⟩ : ∃ w7, w7 = w6.setCell ⟨wi.heap.size, 1, none⟩ (.slice A6 (q + 1) c6) := ⟨_, rfl⟩
              rw [← hw7]
              have hB7 : Below wi.heap.size wi w7 := by
                have h3 : Below wi.heap.size wi wq.drew := below_drew hBq
                have h4 := h3.grown HY.out.2.1 h3.size (fun k hk => by have := hbe k hk; omega)
                rw [hw7]
                exact h4.setCell (Nat.le_refl _) _
              have he17 : w7.cell? ⟨wi.heap.size, 1, none⟩ = some (.slice A6 (q + 1) c6) := by rw [hw7]; exact World.cell?_setCell_same _ _ _ k1'
              have hf17 : w7.frozen? ⟨wi.heap.size, 1, none⟩ = false := by rw [hw7, World.frozen?_setCell]; exact hf1'
              have he07 : w7.cell? ⟨wi.heap.size, 0, none⟩ = some (.slice Ae b.length ce) := by rw [hw7]; exact (World.cell?_setCell_other _ _ _ _ (by simp)).trans he0'
              have hRe7 : Kd.string.R 9 w7 (wi.heap.size + 1) (fun _ => True) (.slice Ae b.length ce) (b.map fun e => E.getD e ByteArray.empty) := by rw [hw7]; exact R_old HY.out.2.2.2 (Nat.lt_succ_self _) _
              have hRx7 : Kd.R (Kd.int .i64) 3 w7 (wi.heap.size + 1) (fun _ => True) (.slice (some ad2) b.length cq) ul := by rw [hw7]; exact R_old HY.out.2.2.1 (Nat.lt_succ_self _) _
              have hRu7 : k47.R 47 w7 (wi.heap.size + 1) (fun _ => True) (.slice A6 (q + 1) c6) (((ul.take q).map fun u => rd_T47 U u) ++ [x]) := by rw [hw7]; exact R_old HY.out.1 (Nat.lt_succ_self _) _
              have HZ := Lib.hid (And.intro hB7 (And.intro hRe7 (And.intro hRx7 hRu7)))
              clear hw7 hB7 hRe7 hRx7 hRu7 hBq
              go_wp2_with fail
              refine ⟨⟨q + 1, by rw [Int.natCast_add]; rfl, by omega, .slice A6 (q + 1) c6, HZ.out.1, he07, he17, hf17, HZ.out.2.1, HZ.out.2.2.1, ?_⟩, by simp [intOf]; omega⟩
              rw [HT.out.1, List.map_append, List.map_singleton, ← HT.out.2]
              exact HZ.out.2.2.2
            · have hql' : ¬ (q : Int) < (b.length : Int) := by omega
              have hqe : q = b.length := by omega
              subst hqe
              have hRo := Kd.R_below HR.out.2.1 hBq
              have hRu := HQ2.out.2.2.2.1
              rw [List.take_of_length_le (by rw [HUL.out.2.1]; exact Nat.le_refl _)] at hRu
              have hM : partK.M wq w2.heap.size (fun k => wi.heap.size ≤ k) (b.map (fun e => E.getD e ByteArray.empty), ul.map fun u => rd_T47 U u) [.slice Ae b.length ce, .slice Au b.length cu] :=
                ⟨[.slice Ae b.length ce], [.slice Au b.length cu], rfl, ⟨_, rfl, Kd.R_lower (Kd.R_mono (Kd.R_bound HQ2.out.2.1) (fun k hk => by have := hk.2.1; omega)) (by omega)⟩, ⟨_, rfl, Kd.R_lower (Kd.R_mono (Kd.R_bound hRu) (fun k hk => by have := hk.2.1; omega)) (by omega)⟩⟩
              have HRO := Lib.hid (And.intro hRo (And.intro hM (show w2.heap.size ≤ wq.heap.size from Nat.le_trans hszi hBq.size)))
              clear hRo hRu hM
              go_wp2_with (at_builtin; go_must (refine Kd.R_append partK (w0 := wq) w2.heap.size rfl (.tmp 78) (.tmp 80) 27 42 (.agg #[.slice none 0 0, .slice none 0 0]) 48 rfl Try.underlying27 info42 rfl (by decide) (by decide) (.slice Ax i cx) ((bl.take i).map (partOf E U m)) (b.map (fun e => E.getD e ByteArray.empty), ul.map fun u => rd_T47 U u) [.slice Ae b.length ce, .slice Au b.length cu] (fun _ => True) (fun k => wi.heap.size ≤ k) rfl rfl HRO.out.2.1 (fun k hk => ⟨trivial, fun e1 => by have := Kd.R_lt HR.out.2.1 k e1.symm; omega⟩) (fun _ _ => trivial) HRO.out.1 (Below.refl _ _) HRO.out.2.2 (by rw [HR.out.2.2]; omega) ?_); intro v8 w8 hr8 hb8 hg8 hat8; have HW := Lib.hid (And.intro hr8 hb8); clear hr8 hb8 hg8 hat8)
              refine ⟨⟨i + 1, by rw [Int.natCast_add]; rfl, by omega, (HR.out.1.trans (hBq.mono HR.out.1.size)).trans HW.out.2, ?_⟩, by simp [intOf]; omega⟩
              rw [HG.out.2.2.1, List.map_append, List.map_singleton, partOf, ← HUL.out.1]
              exact HW.out.1
    · have hil' : ¬ (i : Int) < (bl.length : Int) := by omega
      have hie : i = bl.length := by omega
      go_wp2_with fail
      go_ret2
      have hr := Kd.R_reads' HR.out.2.1
      rw [HR.out.2.2] at hr
      subst hie
      rw [List.take_length] at hr
      exact ⟨Ax, cx, rfl, HX.out.1.trans (HR.out.1.mono HX.out.1.size), hr.2.1, hr.2.2⟩
end
end Go.Proofs.Ytmfcefakpfbaoaa.PMatch
end
