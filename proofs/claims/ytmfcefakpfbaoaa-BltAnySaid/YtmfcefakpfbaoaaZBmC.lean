/- Lemmas for RowBltAny. -/
import Derived.Test.YtmfcefakpfbaoaaZBlZ
import Derived.Test.YtmfcefakpfbaoaaQC
import Derived.Test.YtmfcefakpfbaoaaZBmB
section
set_option linter.unusedVariables false
set_option linter.unusedSimpArgs false
namespace Go.Proofs.Ytmfcefakpfbaoaa.PMatch
open Go.RowKit Go.Proofs.YtmfcefakpfbaoaaW.PrintWords Go.Proofs.YtmfcefakpfbaoaaW.PrintLast Go.Proofs.YtmfcefakpfbaoaaW.PrintMore
open Blt (ints blocks0 Blocks seqB blocksB needsB waitB posL placeL sameB leadB reachB blkE ofI ofBL ofB)
structure Srt (n : Nat) (J : List (List Int)) (m : List Int) (sb : Nat) (W : World) : Prop where
  use : ∃ A c, W.cell? ⟨sb, 3, none⟩ = some (.slice A n c) ∧ n ≤ c ∧ Kd.C (Kd.int .i64) W A n m
  blocks : ∃ A c, W.cell? ⟨sb, 4, none⟩ = some (.slice A (blocksB n (ndB J m)).length c) ∧ (blocksB n (ndB J m)).length ≤ c ∧ Kd.C (Kd.slice 3 (Kd.int .i64)) W A (blocksB n (ndB J m)).length ((blocksB n (ndB J m)).map ints)
  of : ∃ A c, W.cell? ⟨sb, 5, none⟩ = some (.slice A n c) ∧ n ≤ c ∧ Kd.C (Kd.int .i64) W A n (ofL n (seqB n (ndB J m)) (ofBL n (blocks0 n (ndB J m))) n)
  needs : ∃ A c, W.cell? ⟨sb, 6, none⟩ = some (.slice A (blocksB n (ndB J m)).length c) ∧ (blocksB n (ndB J m)).length ≤ c ∧ Kd.C (Kd.slice 3 (Kd.int .i64)) W A (blocksB n (ndB J m)).length ((needsB n (ndB J m)).map ints)
theorem Made.grown {B n : Nat} {R : Nat → List Bool} {W W' : World} {fb : Nat} (h : Made B n n R W) (hg : W.grownBy W' (some fb)) (hf : fb ≤ B) : Made B n n R W' := by
  have hc : ∀ j, j < n → W'.cell? ⟨B + 1, j, none⟩ = W.cell? ⟨B + 1, j, none⟩ := fun j hj => by
    obtain ⟨v, hv⟩ := h.there j hj
    exact cell_grown' (by have := World.block_lt_of_cell? W _ hv; exact this) hg (by simp; omega)
  refine ⟨fun j hj => by rw [hc j hj]; exact h.there j hj, fun j hj => ?_, fun j hj => ?_⟩
  · obtain ⟨v, hv⟩ := h.there j hj
    exact (frozen_grown (by have := World.block_lt_of_cell? W _ hv; exact this) hg (by simp; omega)).trans (h.soft j hj)
  · obtain ⟨rb, h1, h2, h3, h4, h5⟩ := h.rows j hj
    exact ⟨rb, h1, Nat.lt_of_lt_of_le h2 hg.size, by rw [hc j hj]; exact h3, h4, Kd.R_grown h5 hg (fun k hk => by rw [hk]; simp; omega)⟩
theorem Made.cells {B n : Nat} {R : Nat → List Bool} {W : World} (h : Made B n n R W) {j k : Nat} (hj : j < n) (hk : k < n) : ∃ rb, W.cell? ⟨B + 1, j, none⟩ = some (.slice (some ⟨rb, 0, none⟩) n n) ∧ W.cell? ⟨rb, k, none⟩ = some (.bool ((R j).getD k false)) := by
  obtain ⟨rb, h1, h2, h3, h4, h5⟩ := h.rows j hj
  have hc := (Kd.R_cell (enc := Value.bool) (h1 := fun _ => rfl) false h5 (k : Int) (by omega) (by rw [h4]; omega)).1
  rw [Int.toNat_natCast, rdOf, Int.toNat_natCast] at hc
  exact ⟨rb, h3, hc⟩
theorem c_of {W : World} {B g n co f : Nat} {ok : Nat → Prop} {nd : Nat → Nat → Bool} {bl : List (List Nat)} {e : Nat} (hf : f < n) (h : Kd.R (Kd.int .i64) 3 W B ok (.slice (some ⟨g, 0, none⟩) n co) (ofI n nd bl e f)) :
    (∃ v, W.cell? ⟨g, f, none⟩ = some v) ∧ W.frozen? ⟨g, f, none⟩ = false := by
  have h2 := Kd.R_cell (enc := Value.int .i64) (h1 := fun _ => rfl) 0 (by rw [Blt.ofI_len]; exact h) (f : Int) (by omega) (by rw [Blt.ofI_len]; omega)
  rw [Int.toNat_natCast] at h2
  exact ⟨⟨_, h2.1⟩, h2.2⟩
section
variable {E : List ByteArray} {U : List S47} {J : List (List Int)} {m : List Int} {A0 : Option Addr} {c0 : Nat} {A1 : Option Addr} {c1 : Nat} {A2 : Option Addr} {c2 : Nat} {w : World}
set_option maxRecDepth 100000 in
set_option maxHeartbeats 4000000 in
theorem c_sort (hv : Valid E U J) (hm : Matched E U J m) (h0 : Kd.C Kd.string w A0 E.length E) (hc0 : E.length ≤ c0) (h1 : Kd.C k47 w A1 U.length U) (hc1 : U.length ≤ c1)
    (h2 : Kd.C (Kd.slice 3 (Kd.int .i64)) w A2 J.length J) (hc2 : J.length ≤ c2) :
    Calls Try.prog 32 #[.agg #[.slice A0 E.length c0, .slice A1 U.length c1, .slice A2 J.length c2]] w fun e w' => Below w.heap.size w w' ∧
      if E.length = U.length ∧ (-1 : Int) ∉ m then ∃ sb, w.heap.size ≤ sb ∧ e = .returned (.tuple #[.pointer (some ⟨sb, 0, none⟩), .int .i64 0]) ∧ Srt E.length J m sb w' else e = .returned (.tuple #[.pointer none, .int .i64 13]) := by
  have hO := hv.out hm
  have hml : m.length = E.length := hO.len
  have hcm := fun W (hb : Below w.heap.size w W) => c_Match hv hm (Kd.C_below h0 hb) hc0 (Kd.C_below h1 hb) hc1 (Kd.C_below h2 hb) hc2
  have hE := hv.hE
  have hU := hv.hU
  have hC := h2
  rw [hv.len] at hC
  rw [hv.len, hml] at hcm
  rw [hv.len] at hc2 ⊢
  obtain ⟨n, hn⟩ : ∃ n, n = E.length := ⟨_, rfl⟩
  obtain ⟨u, hu⟩ : ∃ u, u = U.length := ⟨_, rfl⟩
  rw [← hn] at hE hc0 hc2 hC hml hcm ⊢
  rw [← hu] at hU hc1 hcm ⊢
  have hJl : J.length = n := by rw [hn]; exact hv.len
  have HG := Lib.hid (And.intro hv (And.intro hm (And.intro hO (And.intro hml (And.intro hJl (And.intro hn (And.intro hu (And.intro hC (And.intro hc0 (And.intro hc1 hc2))))))))))
  have HCM := Lib.hid hcm
  clear hv hm h0 hc0 h1 hc1 h2 hc2 hO hml hn hu hC hJl hcm
  have hu26 := Try.underlying26
  have hb1 : Below w.heap.size w (w.alloc (.cells #[.slice A0 n c0, .slice A1 u c1, .slice A2 n c2] 26)) := (Below.refl _ _).alloc (Nat.le_refl _) _
  go_enter Try.func32, Try.ntmps32
  go_wp2_with fail
  refine (HCM.out _ hb1).mono ?_
  rintro ex w2 ⟨Am, cm, rfl, hr2, hb2⟩
  have hsz1 : (w.alloc (.cells #[.slice A0 n c0, .slice A1 u c1, .slice A2 n c2] 26)).heap.size = w.heap.size + 1 := by simp
  rw [hsz1] at hr2 hb2
  have g0 : w2.cell? ⟨w.heap.size, 0, none⟩ = some (.slice A0 n c0) := (hb2.cell (by exact Nat.lt_succ_self _)).trans (by rw [World.cell?_alloc_at _ _ _ _ rfl]; rfl)
  have g1 : w2.cell? ⟨w.heap.size, 1, none⟩ = some (.slice A1 u c1) := (hb2.cell (by exact Nat.lt_succ_self _)).trans (by rw [World.cell?_alloc_at _ _ _ _ rfl]; rfl)
  have g2 : w2.cell? ⟨w.heap.size, 2, none⟩ = some (.slice A2 n c2) := (hb2.cell (by exact Nat.lt_succ_self _)).trans (by rw [World.cell?_alloc_at _ _ _ _ rfl]; rfl)
  have hB2 : Below w.heap.size w w2 := hb1.trans (hb2.mono (Nat.le_succ _))
  have HM := Lib.hid (And.intro hr2 hB2)
  have hs2 : w.heap.size + 1 ≤ w2.heap.size := by have := hb2.size; rwa [hsz1] at this
  clear hb1 hr2 hb2 hB2 hsz1
  by_cases hEU : n = u
  · subst hEU
    go_wp2_with fail
    have hcn := c_Contains Am cm m (-1) w2
    rw [HG.out.2.2.2.1] at hcn
    have hrm := Kd.R_reads' HM.out.1
    rw [HG.out.2.2.2.1] at hrm
    refine (hcn hrm.2.2 hrm.2.1 (by omega)).mono ?_
    rintro ex w3 ⟨rfl, hd3⟩
    have HD := Lib.hid hd3
    clear hd3 hrm hcn
    by_cases hneg : (-1 : Int) ∈ m
    · rw [decide_eq_true hneg]
      go_wp2_with fail
      go_ret2
      exact ⟨HM.out.2.trans ((HD.out.below).mono HM.out.2.size), rfl⟩
    · rw [decide_eq_false hneg]
      obtain ⟨⟨dn, hdn⟩⟩ := HD.out
      have g0' : w3.cell? ⟨w.heap.size, 0, none⟩ = some (.slice A0 n c0) := by rw [hdn]; exact g0
      have g1' : w3.cell? ⟨w.heap.size, 1, none⟩ = some (.slice A1 n c1) := by rw [hdn]; exact g1
      have g2' : w3.cell? ⟨w.heap.size, 2, none⟩ = some (.slice A2 n c2) := by rw [hdn]; exact g2
      clear hdn g0 g1 g2
      have hs3 : w.heap.size < w3.heap.size := World.block_lt_of_cell? _ _ g0'
      go_wp2_with fail
      refine OrdL.begin_ (S := fun W => W.cell? ⟨w.heap.size, 0, none⟩ = some (.slice A0 n c0) ∧ W.cell? ⟨w.heap.size, 1, none⟩ = some (.slice A1 n c1) ∧ W.cell? ⟨w.heap.size, 2, none⟩ = some (.slice A2 n c2)) [] [9] (by kernel_rfl) ?_ (fun hHeld => ?_)
      focus ((try dsimp only); exact ⟨g0', g1', g2'⟩)
      refine OrdL.take (i := 0) (d := (some 31)) (v := ?_) rfl rfl (by kernel_rfl) (by kernel_rfl) (by kernel_rfl) (by kernel_rfl) (fun _ _ _ h => h) (by assumption) ⟨by rfl, ?_⟩ ?_
      rotate_left
      focus (intro w hSw; (try dsimp only at hSw); go_simp; try with_reducible rfl)
      (try simp only [Act.put, List.getElem_toArray, List.getElem_cons_zero, List.getElem_cons_succ, List.setIfInBounds_toArray, List.set_cons_zero, List.set_cons_succ])
      refine OrdL.take (i := 1) (d := (some 32)) (v := ?_) rfl rfl (by kernel_rfl) (by kernel_rfl) (by kernel_rfl) (by kernel_rfl) (fun _ _ _ h => h) (by assumption) ⟨by rfl, ?_⟩ ?_
      rotate_left
      focus (intro w hSw; (try dsimp only at hSw); go_simp; try with_reducible rfl)
      (try simp only [Act.put, List.getElem_toArray, List.getElem_cons_zero, List.getElem_cons_succ, List.setIfInBounds_toArray, List.set_cons_zero, List.set_cons_succ])
      refine OrdL.take (i := 3) (d := (some 34)) (v := ?_) rfl rfl (by kernel_rfl) (by kernel_rfl) (by kernel_rfl) (by kernel_rfl) (fun _ _ _ h => h) (by assumption) ⟨by rfl, ?_⟩ ?_
      rotate_left
      focus (intro w hSw; (try dsimp only at hSw); go_simp; try with_reducible rfl)
      (try simp only [Act.put, List.getElem_toArray, List.getElem_cons_zero, List.getElem_cons_succ, List.setIfInBounds_toArray, List.set_cons_zero, List.set_cons_succ])
      refine OrdL.take (i := 4) (d := (some 35)) (v := ?_) rfl rfl (by kernel_rfl) (by kernel_rfl) (by kernel_rfl) (by kernel_rfl) (fun _ _ _ h => h) (by assumption) ⟨by rfl, ?_⟩ ?_
      rotate_left
      focus (intro w hSw; (try dsimp only at hSw); go_simp; try with_reducible rfl)
      (try simp only [Act.put, List.getElem_toArray, List.getElem_cons_zero, List.getElem_cons_succ, List.setIfInBounds_toArray, List.set_cons_zero, List.set_cons_succ])
      refine OrdL.take (i := 5) (d := (some 36)) (v := ?_) rfl rfl (by kernel_rfl) (by kernel_rfl) (by kernel_rfl) (by kernel_rfl) (fun _ _ _ h => h) (by assumption) ⟨by rfl, ?_⟩ ?_
      rotate_left
      focus (intro w hSw; (try dsimp only at hSw); go_simp; try with_reducible rfl)
      (try simp only [Act.put, List.getElem_toArray, List.getElem_cons_zero, List.getElem_cons_succ, List.setIfInBounds_toArray, List.set_cons_zero, List.set_cons_succ])
      refine OrdL.step (i := 2) rfl (by decide) (by kernel_rfl) (fun Kc hKc => ?_)
      simp only [List.getElem_toArray, List.getElem_cons_zero, List.getElem_cons_succ]
      go_simp
      go_wp2_with fail
      refine hKc.out _ _ ?_ (fun hHeld => ?_)
      focus ((try dsimp only); exact ⟨(World.cell?_alloc_lt _ _ _ (by exact hs3)).trans g0', (World.cell?_alloc_lt _ _ _ (by exact hs3)).trans g1', (World.cell?_alloc_lt _ _ _ (by exact hs3)).trans g2'⟩)
      clear hKc Kc
      (try simp only [Act.put, List.getElem_toArray, List.getElem_cons_zero, List.getElem_cons_succ, List.setIfInBounds_toArray, List.set_cons_zero, List.set_cons_succ])
      refine OrdL.step (i := 6) rfl (by decide) (by kernel_rfl) (fun Kc hKc => ?_)
      simp only [List.getElem_toArray, List.getElem_cons_zero, List.getElem_cons_succ]
      go_simp
      refine (c_Rep (by omega) w3.drew).mono ?_
      rintro ex w4 ⟨Ao, co, rfl, hr4, hb4⟩
      have e0 := (hb4.cell (p := ⟨w.heap.size, 0, none⟩) (by exact Nat.lt_succ_of_lt hs3)).trans ((World.cell?_alloc_lt _ _ _ (by exact hs3)).trans g0')
      have e1 := (hb4.cell (p := ⟨w.heap.size, 1, none⟩) (by exact Nat.lt_succ_of_lt hs3)).trans ((World.cell?_alloc_lt _ _ _ (by exact hs3)).trans g1')
      have e2 := (hb4.cell (p := ⟨w.heap.size, 2, none⟩) (by exact Nat.lt_succ_of_lt hs3)).trans ((World.cell?_alloc_lt _ _ _ (by exact hs3)).trans g2')
      have HR := Lib.hid (And.intro hr4 hb4)
      have hs4 : w.heap.size < w4.heap.size := World.block_lt_of_cell? _ _ e0
      clear hr4 hb4
      go_wp2_with fail
      refine hKc.out _ _ ?_ (fun hHeld => ?_)
      focus ((try dsimp only); exact ⟨e0, e1, e2⟩)
      clear hKc Kc
      (try simp only [Act.put, List.getElem_toArray, List.getElem_cons_zero, List.getElem_cons_succ, List.setIfInBounds_toArray, List.set_cons_zero, List.set_cons_succ])
      refine OrdL.step (i := 7) rfl (by decide) (by kernel_rfl) (fun Kc hKc => ?_)
      simp only [List.getElem_toArray, List.getElem_cons_zero, List.getElem_cons_succ]
      go_simp
      go_wp2_with fail
      refine hKc.out _ _ ?_ (fun hHeld => ?_)
      focus ((try dsimp only); exact ⟨e0, e1, e2⟩)
      clear hKc Kc
      (try simp only [Act.put, List.getElem_toArray, List.getElem_cons_zero, List.getElem_cons_succ, List.setIfInBounds_toArray, List.set_cons_zero, List.set_cons_succ])
      refine OrdL.step (i := 8) rfl (by decide) (by kernel_rfl) (fun Kc hKc => ?_)
      simp only [List.getElem_toArray, List.getElem_cons_zero, List.getElem_cons_succ]
      go_simp
      go_wp2_with fail
      refine hKc.out _ _ ?_ (fun hHeld => ?_)
      focus ((try dsimp only); exact ⟨(World.cell?_alloc_lt _ _ _ (by exact hs4)).trans e0, (World.cell?_alloc_lt _ _ _ (by exact hs4)).trans e1, (World.cell?_alloc_lt _ _ _ (by exact hs4)).trans e2⟩)
      clear hKc Kc
      (try simp only [Act.put, List.getElem_toArray, List.getElem_cons_zero, List.getElem_cons_succ, List.setIfInBounds_toArray, List.set_cons_zero, List.set_cons_succ])
      refine OrdL.last (i := 9) rfl (by decide) (by decide) (by kernel_rfl) (fun Kc hKc => ?_)
      simp only [List.getElem_toArray, List.getElem_cons_zero, List.getElem_cons_succ]
      go_simp
      refine hKc.out _ _ ?_
      clear hKc Kc
      (try simp only [Act.put, List.getElem_toArray, List.getElem_cons_zero, List.getElem_cons_succ, List.setIfInBounds_toArray, List.set_cons_zero, List.set_cons_succ])
      refine OrdL.done (by kernel_rfl) ?_ _
      obtain ⟨w5, hw5⟩ : ∃ w5, w5 = w4.alloc (.cells #[.slice A0 n c0, .slice A1 n c1, .slice A2 n c2, .slice Am n cm, .slice none 0 0, .slice Ao n co, .slice none 0 0] 66) := ⟨_, rfl⟩
      rw [← hw5]
      have hB4 : Below w.heap.size w w4 := by
        have h3 : Below w.heap.size w w3.drew := below_drew (HM.out.2.trans (HD.out.below.mono HM.out.2.size))
        exact (h3.trans ((Below.refl _ _).alloc h3.size _)).trans (HR.out.2.mono (Nat.le_succ_of_le (Nat.le_of_lt hs3)))
      have hB5 : Below w.heap.size w w5 := by rw [hw5]; exact hB4.alloc hB4.size _
      have hs5 : w5.heap.size = w4.heap.size + 1 := by rw [hw5]; simp
      have hsb : ∀ i (v : Value), #[Value.slice A0 n c0, .slice A1 n c1, .slice A2 n c2, .slice Am n cm, .slice none 0 0, .slice Ao n co, .slice none 0 0][i]? = some v → w5.cell? ⟨w4.heap.size, i, none⟩ = some v := fun i v hv => by
        rw [hw5, World.cell?_alloc_at _ _ _ _ rfl]; exact hv
      have hsf : ∀ i, w5.frozen? ⟨w4.heap.size, i, none⟩ = false := fun i => by
        rw [hw5, World.frozen?_alloc_at _ _ _ _ rfl]
      have hb45 : Below w4.heap.size w4 w5 := by rw [hw5]; exact (Below.refl _ _).alloc (Nat.le_refl _) _
      have hml := HG.out.2.2.2.1
      have hJl := HG.out.2.2.2.2.1
      have hb25 : Below w2.heap.size w2 w5 := by
        have h3 : Below w2.heap.size w2 w3.drew := below_drew HD.out.below
        have h4 := (h3.trans ((Below.refl _ _).alloc h3.size _)).trans (HR.out.2.mono (Nat.le_succ_of_le HD.out.below.size))
        exact h4.trans (hb45.mono h4.size)
      have hrm := Kd.R_below HM.out.1 hb25
      have hSees : Sees w4.heap.size A2 c2 J Am cm m w5 := by
        have h := Kd.R_reads' hrm
        refine ⟨by rw [hJl]; exact hsb 2 _ rfl, by rw [hml]; exact hsb 3 _ rfl, ?_, h.2.2, by rw [hJl]; exact HG.out.2.2.2.2.2.2.2.2.2.2, by rw [hml]; exact h.2.1⟩
        rw [hJl]; exact Kd.C_below HG.out.2.2.2.2.2.2.2.1 hB5
      have hrows : ∀ e, e < n → (rd_L4 J e).length ≤ 1000000 := fun e he => (HG.out.1.rows e (by rw [hJl]; exact he)).2
      obtain ⟨fb, hfb⟩ : ∃ fb, fb = (Ao.map (·.block)).getD w3.heap.size := ⟨_, rfl⟩
      have hfb1 : w3.heap.size ≤ fb ∧ fb < w4.heap.size := by
        have hz : w3.heap.size + 1 ≤ w4.heap.size := by have := HR.out.2.size; simpa using this
        cases Ao with
        | none => rw [hfb]; exact ⟨Nat.le_refl _, hz⟩
        | some a =>
          have h3 := Kd.R_base HR.out.1 a.block rfl
          have h4 := Kd.R_lt HR.out.1 a.block rfl
          rw [hfb]
          have h3 : w3.heap.size + 1 ≤ a.block := h3
          exact ⟨(by show w3.heap.size ≤ a.block; omega), h4⟩
      have hro : Kd.R (Kd.int .i64) 3 w5 w.heap.size (fun k => k = fb) (.slice Ao n co) (List.replicate n (-1)) := by
        have h3 := Kd.R_below HR.out.1 hb45
        have h4 := Kd.own_of_R (enc := Value.int .i64) (h1 := fun _ => rfl) h3
        refine Kd.R_of_own (enc := Value.int .i64) (h1 := fun _ => rfl) (own_weaken h4 (by show w.heap.size ≤ w3.heap.size + 1; omega)) (fun k hk => ?_)
        cases Ao with
        | none => cases hk
        | some a => rw [hfb]; exact (Option.some.inj hk).symm
      have hclosed := c_closed hSees (hsb 0 _ rfl) hJl hml (by omega) hrows
      have k0 := (hb45.cell (p := ⟨w.heap.size, 0, none⟩) (by exact hs4)).trans e0
      have k5 := hsb 5 _ rfl
      have HS := Lib.hid (And.intro hB5 (And.intro hSees (And.intro hro (And.intro hrows (And.intro hsb (And.intro hsf (And.intro hfb1 (And.intro hml (And.intro hJl (And.intro hrm hb25))))))))))
      have HCL := Lib.hid hclosed
      have HS5 := Lib.hid hs5
      clear hs5 hw5 hB4 hB5 hsb hsf hb45 hb25 hSees hrows hro hclosed hml hJl hrm hfb hfb1 e0 e1 e2 g0' g1' g2' HR
      go_wp2_with fail
      refine HCL.out.mono ?_
      rintro ex w6 ⟨rfl, hM6, hb6⟩
      have k0' := pw_cell_below hb6 k0
      have k5' := pw_cell_below hb6 k5
      have H6 := Lib.hid (And.intro hM6 hb6)
      have hs6 : w5.heap.size ≤ w6.heap.size := hb6.size
      clear hM6 hb6 k0 k5
      have hro6 : Kd.R (Kd.int .i64) 3 w6 w.heap.size (fun k => k = fb) (.slice Ao n co) (ofBL n []) := by
        rw [Blt.ofBL_nil]
        exact Kd.R_below HS.out.2.2.1 H6.out.2
      have HRO := Lib.hid hro6
      have hfbl : fb < w5.heap.size := by have := HS.out.2.2.2.2.2.2.1.2; have := HS5.out; omega
      have hwl : w.heap.size < w5.heap.size := by have := HS5.out; omega
      have hsl : w4.heap.size < w5.heap.size := by have := HS5.out; omega
      have hsfb : w4.heap.size ≠ fb := by have := HS.out.2.2.2.2.2.2.1.2; omega
      have hwfb : w.heap.size ≠ fb := by have := HS.out.2.2.2.2.2.2.1.1; omega
      have hfb2 : w2.heap.size ≤ fb := Nat.le_trans HD.out.below.size HS.out.2.2.2.2.2.2.1.1
      have hfb0 : w.heap.size ≤ fb := by omega
      clear hro6
      go_wp2_with fail
      go_loopw [8, 45] (fun b v W => ∃ e : Nat, v = .int .i64 e ∧ e ≤ n ∧ w6.grownBy W (some fb) ∧ (Kd.slice 3 (Kd.int .i64)).R 31 W w6.heap.size (fun _ => True) b ((blkE n (ndB J m) e).map ints) ∧ Kd.R (Kd.int .i64) 3 W w.heap.size (fun k => k = fb) (.slice Ao n co) (ofBL n (blkE n (ndB J m) e))) (fun _ v _ => n - (intOf v).toNat)
      case atStart => exact ⟨0, rfl, Nat.zero_le _, grown_of_below (Below.refl _ _) _, Kd.R_nil _ _ _ _ _, HRO.out⟩
      case round =>
        obtain ⟨e, rfl, he, hg, hrb, hro⟩ := hrel
        obtain ⟨wc, rfl⟩ : ∃ x, x = wr := ⟨_, rfl⟩
        obtain ⟨Ab, cb, rfl⟩ := Kd.R_slice hrb
        obtain ⟨N0, hN0⟩ : ∃ N0, N0 = ((blkE n (ndB J m) e).map ints).length := ⟨_, rfl⟩
        rw [← hN0] at hrb ⊢
        have hN0' : N0 = (blkE n (ndB J m) e).length := by rw [hN0, List.length_map]
        have hN0e : N0 ≤ e := by rw [hN0']; exact Blt.blkE_len
        have kc0 := cell_grown k0' hg (by simpa using hwfb)
        have kc5 := cell_grown k5' hg (by simpa using hsfb)
        have hMc := H6.out.1.grown hg (Nat.le_of_lt hfbl)
        have HC := Lib.hid (And.intro hg (And.intro hrb (And.intro hro (And.intro hN0' hMc))))
        clear hg hrb hro hN0 hN0' hMc
        by_cases hen : e < n
        · have hen' : (e : Int) < (n : Int) := by omega
          have he0 : (0 : Int) ≤ (e : Int) := by omega
          obtain ⟨g, cap, hA, _⟩ := Kd.R_form HC.out.2.2.1 (by rw [Blt.ofBL_len]; omega)
          have hgf := HC.out.2.2.1.1 g (by rw [hA]; rfl)
          subst hgf
          rw [Blt.ofBL_len] at hA
          injection hA with hA _ hcap
          subst hA
          subst hcap
          have hro' : Kd.R (Kd.int .i64) 3 wc w.heap.size (fun k => k = g) (.slice (some ⟨g, 0, none⟩) (ofBL n (blkE n (ndB J m) e)).length co) (ofBL n (blkE n (ndB J m) e)) := by rw [Blt.ofBL_len]; exact HC.out.2.2.1
          have hc := (Kd.R_cell (enc := Value.int .i64) (h1 := fun _ => rfl) 0 hro' (e : Int) he0 (by rw [Blt.ofBL_len]; exact hen')).1
          rw [Int.toNat_natCast, rdOf, Int.toNat_natCast, Blt.ofBL_at hen] at hc
          clear hro'
          cases hl : leadB n (ndB J m) e
          · have hge : 0 ≤ ofB (blkE n (ndB J m) e) e := (Blt.ofB_lead hen).2 hl
            have HL := Lib.hid hl
            clear hl
            go_wp2_with fail
            refine ⟨⟨e + 1, by rw [Int.natCast_add]; rfl, by omega, HC.out.1, ?_, ?_⟩, by simp [intOf]; omega⟩
            · rw [Blt.blkE_skip HL.out]; exact HC.out.2.1
            · rw [Blt.blkE_skip HL.out]; exact HC.out.2.2.1
          · have hge : ¬ 0 ≤ ofB (blkE n (ndB J m) e) e := fun h => by rw [(Blt.ofB_lead hen).1 h] at hl; cases hl
            have HL := Lib.hid hl
            clear hl
            go_wp2_with fail
            go_loopw [10, 59] (fun b v W => ∃ f : Nat, v = .int .i64 f ∧ f ≤ n ∧ wc.grownBy W (some g) ∧ Kd.R (Kd.int .i64) 3 W wc.heap.size (fun _ => True) b (ints ((List.range f).filter (sameB n (ndB J m) e))) ∧ Kd.R (Kd.int .i64) 3 W w.heap.size (fun k => k = g) (.slice (some ⟨g, 0, none⟩) n co) (ofI n (ndB J m) (blkE n (ndB J m) e) e f)) (fun _ v _ => n - (intOf v).toNat)
            case atStart => exact ⟨0, rfl, Nat.zero_le _, grown_of_below (Below.refl _ _) _, Kd.R_nil _ _ _ _ _, by rw [Blt.ofI_zero]; exact HC.out.2.2.1⟩
            case round =>
              obtain ⟨f, rfl, hf, hg, hrx, hro⟩ := hrel
              obtain ⟨wi, rfl⟩ : ∃ x, x = wr := ⟨_, rfl⟩
              obtain ⟨Ax, cx, rfl⟩ := Kd.R_slice hrx
              obtain ⟨n0, hn0⟩ : ∃ n0, n0 = (ints ((List.range f).filter (sameB n (ndB J m) e))).length := ⟨_, rfl⟩
              rw [← hn0] at hrx ⊢
              obtain ⟨X, hX⟩ : ∃ X, X = ints ((List.range f).filter (sameB n (ndB J m) e)) := ⟨_, rfl⟩
              rw [← hX] at hrx hn0
              subst hn0
              have hXl : X.length ≤ 120 := by
                have h3 := List.length_filter_le (sameB n (ndB J m) e) (List.range f)
                rw [hX, ints_len]
                rw [List.length_range] at h3
                omega
              have ki0 := cell_grown kc0 hg (by simpa using hwfb)
              have ki5 := cell_grown kc5 hg (by simpa using hsfb)
              have hMi := HC.out.2.2.2.2.grown hg (Nat.le_of_lt hfbl)
              have hgw : g < wc.heap.size := Nat.lt_of_lt_of_le hfbl (Nat.le_trans hs6 HC.out.1.size)
              have hgl := hgw
              have hsl2 : w4.heap.size < wc.heap.size := Nat.lt_of_lt_of_le hsl (Nat.le_trans hs6 HC.out.1.size)
              have hsi : w4.heap.size < wi.heap.size := Nat.lt_of_lt_of_le hsl2 hg.size
              have hown : ∀ k, (Value.slice Ax X.length cx).ownBlock = some k → ¬ k < wc.heap.size := fun k hk h => by have := Kd.R_base hrx k hk; omega
              have hown2 : ∀ k, (Value.slice Ax X.length cx).ownBlock = some k → wc.heap.size ≤ k := fun k hk => Kd.R_base hrx k hk
              have HI := Lib.hid (And.intro hg (And.intro hrx (And.intro hro (And.intro hMi hX.symm))))
              clear hg hrx hro hMi hX
              by_cases hfn : f < n
              · have hfn' : (f : Int) < (n : Int) := by omega
                have hf0 : (0 : Int) ≤ (f : Int) := by omega
                by_cases hfe : f = e
                · have hs : sameB n (ndB J m) e f = true := by unfold sameB; rw [hfe, beq_self_eq_true, Bool.true_or]
                  subst hfe
                  go_wp2_with (at_builtin; go_must (refine Kd.R_append (Kd.int .i64) (w0 := wi) wc.heap.size rfl (.tmp 83) (.tmp 85) 31 3 (.int .i64 0) 8 rfl Try.underlying31 info3 rfl (by decide) (by decide) (.slice Ax X.length cx) X (f : Int) [.int .i64 (f : Int)] (fun _ => True) (fun _ => False) rfl rfl rfl (fun _ hk => hk.elim) (fun _ _ => trivial) HI.out.2.1 (Below.refl _ _) HI.out.1.size (by have := hXl; omega) ?_); intro v7 w7 hr7 hb7 hg7 hat7; have k57 := (cell_grown' (a := ⟨w4.heap.size, 5, none⟩) (by exact hsi) hg7 (fun e1 => hown _ e1.symm hsl2)).trans ki5; have hro7 := Kd.R_grown HI.out.2.2.1 hg7 (fun k hk e1 => hown k e1.symm (by rw [hk]; exact hgl)); have hcf := c_of hfn hro7; obtain ⟨vof, hof1⟩ := hcf.1; have hof2 := hcf.2; have HY := Lib.hid (And.intro hr7 (And.intro hg7 hro7)); clear hr7 hb7 hg7 hat7 hro7 hcf)
                  have hp := Kd.R_put (enc := Value.int .i64) (h1 := fun _ => rfl) (xs := ofI n (ndB J m) (blkE n (ndB J m) f) f f) (by rw [Blt.ofI_len]; exact HY.out.2.2) (f : Int) (N0 : Int)
                  rw [Int.toNat_natCast, Blt.ofI_len, HC.out.2.2.2.1, Blt.ofI_yes hfn hs, ← HC.out.2.2.2.1] at hp
                  refine ⟨⟨f + 1, by rw [Int.natCast_add]; rfl, by omega, (HI.out.1.andThen HY.out.2.1 (fun k hk => .inl (hown2 k hk))).trans hp.2, ?_, hp.1⟩, by simp [intOf]; omega⟩
                  rw [Blt.range_yes hs, show ints ((List.range f).filter (sameB n (ndB J m) f) ++ [f]) = X ++ [(f : Int)] by rw [HI.out.2.2.2.2.symm]; simp [ints]]
                  exact R_old HY.out.1 hgw _
                · have hfe' : ¬ (f : Int) = (e : Int) := by omega
                  obtain ⟨r1, hr1, hr1'⟩ := HI.out.2.2.2.1.cells hen hfn
                  obtain ⟨r2, hr2, hr2'⟩ := HI.out.2.2.2.1.cells hfn hen
                  cases hb1 : (reachB n (ndB J m) e).getD f false
                  · have hs : sameB n (ndB J m) e f = false := by unfold sameB; rw [beq_eq_false_iff_ne.2 hfe, hb1]; rfl
                    rw [hb1] at hr1'
                    clear hb1
                    go_wp2_with fail
                    refine ⟨⟨f + 1, by rw [Int.natCast_add]; rfl, by omega, HI.out.1, ?_, ?_⟩, by simp [intOf]; omega⟩
                    · rw [Blt.range_no hs, HI.out.2.2.2.2]; exact HI.out.2.1
                    · rw [← Blt.ofI_no hs]; exact HI.out.2.2.1
                  · cases hb2 : (reachB n (ndB J m) f).getD e false
                    · have hs : sameB n (ndB J m) e f = false := by unfold sameB; rw [beq_eq_false_iff_ne.2 hfe, hb1, hb2]; rfl
                      rw [hb1] at hr1'
                      rw [hb2] at hr2'
                      clear hb1 hb2
                      go_wp2_with fail
                      refine ⟨⟨f + 1, by rw [Int.natCast_add]; rfl, by omega, HI.out.1, ?_, ?_⟩, by simp [intOf]; omega⟩
                      · rw [Blt.range_no hs, HI.out.2.2.2.2]; exact HI.out.2.1
                      · rw [← Blt.ofI_no hs]; exact HI.out.2.2.1
                    · have hs : sameB n (ndB J m) e f = true := by unfold sameB; rw [hb1, hb2]; simp
                      rw [hb1] at hr1'
                      rw [hb2] at hr2'
                      clear hb1 hb2
                      go_wp2_with (at_builtin; go_must (refine Kd.R_append (Kd.int .i64) (w0 := wi) wc.heap.size rfl (.tmp 83) (.tmp 85) 31 3 (.int .i64 0) 8 rfl Try.underlying31 info3 rfl (by decide) (by decide) (.slice Ax X.length cx) X (f : Int) [.int .i64 (f : Int)] (fun _ => True) (fun _ => False) rfl rfl rfl (fun _ hk => hk.elim) (fun _ _ => trivial) HI.out.2.1 (Below.refl _ _) HI.out.1.size (by have := hXl; omega) ?_); intro v7 w7 hr7 hb7 hg7 hat7; have k57 := (cell_grown' (a := ⟨w4.heap.size, 5, none⟩) (by exact hsi) hg7 (fun e1 => hown _ e1.symm hsl2)).trans ki5; have hro7 := Kd.R_grown HI.out.2.2.1 hg7 (fun k hk e1 => hown k e1.symm (by rw [hk]; exact hgl)); have hcf := c_of hfn hro7; obtain ⟨vof, hof1⟩ := hcf.1; have hof2 := hcf.2; have HY := Lib.hid (And.intro hr7 (And.intro hg7 hro7)); clear hr7 hb7 hg7 hat7 hro7 hcf)
                      have hp := Kd.R_put (enc := Value.int .i64) (h1 := fun _ => rfl) (xs := ofI n (ndB J m) (blkE n (ndB J m) e) e f) (by rw [Blt.ofI_len]; exact HY.out.2.2) (f : Int) (N0 : Int)
                      rw [Int.toNat_natCast, Blt.ofI_len, HC.out.2.2.2.1, Blt.ofI_yes hfn hs, ← HC.out.2.2.2.1] at hp
                      refine ⟨⟨f + 1, by rw [Int.natCast_add]; rfl, by omega, (HI.out.1.andThen HY.out.2.1 (fun k hk => .inl (hown2 k hk))).trans hp.2, ?_, hp.1⟩, by simp [intOf]; omega⟩
                      rw [Blt.range_yes hs, show ints ((List.range f).filter (sameB n (ndB J m) e) ++ [f]) = X ++ [(f : Int)] by rw [HI.out.2.2.2.2.symm]; simp [ints]]
                      exact R_old HY.out.1 hgw _
              · have hfn' : ¬ (f : Int) < (n : Int) := by omega
                obtain rfl : n = f := by omega
                have hbB := HC.out.2.1
                have hB6 : w6.heap.size ≤ wi.heap.size := Nat.le_trans HC.out.1.size HI.out.1.size
                have hbi : (Kd.slice 3 (Kd.int .i64)).R 31 wi w6.heap.size (fun _ => True) (.slice Ab N0 cb) ((blkE n (ndB J m) e).map ints) := R_oldg HC.out.2.1 HI.out.1 (Nat.lt_of_lt_of_le hfbl hs6)
                have HBI := Lib.hid hbi
                clear hbi hbB
                go_wp2_with (at_builtin; go_must (refine Kd.R_append (Kd.slice 3 (Kd.int .i64)) (w0 := wi) w6.heap.size rfl (.tmp 96) (.tmp 98) 24 31 (.slice none 0 0) 24 rfl Try.underlying24 info31 rfl (by decide) (by decide) (.slice Ab N0 cb) ((blkE n (ndB J m) e).map ints) X [.slice Ax X.length cx] (fun _ => True) (fun k => wc.heap.size ≤ k) rfl rfl ⟨_, rfl, Kd.R_lower (Kd.R_mono (Kd.R_bound HI.out.2.1) (fun k hk => hk.2.1)) HC.out.1.size⟩ (fun k hk => ⟨trivial, fun e1 => by have := Kd.R_lt HC.out.2.1 k e1.symm; omega⟩) (fun _ _ => trivial) HBI.out (Below.refl _ _) hB6 (by rw [List.length_map, ← HC.out.2.2.2.1]; omega) ?_); intro v7 w7 hr7 hb7 hg7 hat7; have HY := Lib.hid (And.intro hr7 hg7); clear hr7 hb7 hg7 hat7)
                have hob : ∀ k, (Value.slice Ab N0 cb).ownBlock = some k → w6.heap.size ≤ k := Kd.R_base HBI.out
                refine ⟨⟨e + 1, by rw [Int.natCast_add]; rfl, by omega, ?_, ?_, ?_⟩, by simp [intOf]; omega⟩
                · exact (HC.out.1.trans HI.out.1).andThen HY.out.2 (fun k hk => .inl (hob k hk))
                · rw [Blt.blkE_add HL.out, List.map_append, List.map_singleton, HI.out.2.2.2.2]
                  exact HY.out.1
                · rw [← Blt.ofI_all hen HL.out]
                  exact Kd.R_grown HI.out.2.2.1 HY.out.2 (fun k hk e1 => by have := hob k e1.symm; omega)
        · have hen' : ¬ (e : Int) < (n : Int) := by omega
          obtain rfl : n = e := by omega
          have hb56 := H6.out.2
          have hBc : Below w.heap.size w wc := by
            have h3 := HS.out.1.trans (hb56.mono HS.out.1.size)
            exact h3.grown HC.out.1 h3.size (fun k hk => by cases hk; exact hfb0)
          have hcs : ∀ i (v : Value), #[Value.slice A0 n c0, .slice A1 n c1, .slice A2 n c2, .slice Am n cm, .slice none 0 0, .slice Ao n co, .slice none 0 0][i]? = some v → wc.cell? ⟨w4.heap.size, i, none⟩ = some v := fun i v hv =>
            cell_grown (pw_cell_below hb56 (HS.out.2.2.2.2.1 i v hv)) HC.out.1 (by simpa using hsfb)
          have hfs : ∀ i, wc.frozen? ⟨w4.heap.size, i, none⟩ = false := fun i =>
            (frozen_grown (by exact Nat.lt_of_lt_of_le hsl hs6) HC.out.1 (by simpa using hsfb)).trans ((hb56.frozen (by exact hsl)).trans (HS.out.2.2.2.2.2.1 i))
          have hml := HS.out.2.2.2.2.2.2.2.1
          have hJl := HS.out.2.2.2.2.2.2.2.2.1
          have hb25 := HS.out.2.2.2.2.2.2.2.2.2.2
          have hb26 : Below w2.heap.size w2 w6 := hb25.trans (hb56.mono hb25.size)
          have hb2c : Below w2.heap.size w2 wc := hb26.grown HC.out.1 hb26.size (fun k hk => by cases hk; exact hfb2)
          have hrmc := Kd.R_below HM.out.1 hb2c
          have hSc : Sees w4.heap.size A2 c2 J Am cm m wc := by
            have h := Kd.R_reads' hrmc
            refine ⟨by rw [hJl]; exact hcs 2 _ rfl, by rw [hml]; exact hcs 3 _ rfl, ?_, h.2.2, HS.out.2.1.capJ, by rw [hml]; exact h.2.1⟩
            rw [hJl]; exact Kd.C_below HG.out.2.2.2.2.2.2.2.1 hBc
          have hI : OIn n N0 w4.heap.size fb A2 c2 J Am cm m Ao co (ofBL n (blocks0 n (ndB J m))) Ab cb w.heap.size wc :=
            { sees := hSc
              c4 := hcs 4 _ rfl
              f4 := hfs 4
              c6 := hcs 6 _ rfl
              f6 := hfs 6
              c5 := hcs 5 _ rfl
              ro := by have := HC.out.2.2.1; rw [Blt.blkE_all] at this; exact this
              rb := by
                have h3 := HC.out.2.1
                rw [Blt.blkE_all] at h3
                exact Kd.R_lower (Kd.R_mono (Kd.R_bound h3) (fun k hk => by
                  have := hk.2.1
                  have := HS.out.2.2.2.2.2.2.1.2
                  constructor <;> omega)) (Nat.le_trans HS.out.1.size hs6)
              hJ := hJl
              hm := hml
              hn := by omega
              hrows := HS.out.2.2.2.1
              hN := by rw [← Blt.blkE_all]; exact HC.out.2.2.2.1.symm
              hof := Blt.ofBL_len
              hofs := fun f hf => by
                obtain ⟨i, h3, h4⟩ := Blt.ofB_full (n := n) (nd := ndB J m) hf
                refine ⟨i, ?_, h4⟩
                rw [rd, Int.toNat_natCast, Blt.ofBL_at hf, h3]
              hs := Nat.le_of_lt hs4
              hf := hfb0
              hsf := hsfb
              hfl := Nat.lt_of_lt_of_le hfbl (Nat.le_trans hs6 HC.out.1.size) }
          have hor := c_order hI
          have HOR := Lib.hid (And.intro hor (And.intro hBc (And.intro hb2c hcs)))
          clear hor hI hSc hrmc hb2c hb26 hb25 hml hJl hfs hcs hBc hb56
          go_wp2_with fail
          refine HOR.out.1.mono ?_
          rintro ex w7 ⟨rfl, hF, hoth, hx4, hx6, hxo⟩
          have HX := Lib.hid (And.intro hF (And.intro hoth (And.intro hx4 (And.intro hx6 hxo))))
          clear hF hoth hx4 hx6 hxo
          go_wp2_with fail
          go_ret2
          obtain ⟨hF, hoth, hx4, hx6, hxo⟩ := HX.out
          obtain ⟨_, hBc, hb2c, hcs⟩ := HOR.out
          have hN : N0 = (blocksB n (ndB J m)).length := by rw [Blt.blocksB_len, ← Blt.blkE_all]; exact HC.out.2.2.2.1
          have hml := HS.out.2.2.2.2.2.2.2.1
          have h27 := Kd.R_step (w1 := w7) HM.out.1 (fun k _ hk => by
            have h3 : k < w4.heap.size := by have := HD.out.below.size; have := HS.out.2.2.2.2.2.2.1; omega
            rw [hF.block k (Nat.lt_of_lt_of_le hk hb2c.size) (by omega) (by omega)]
            exact hb2c.block k hk)
          have hr := Kd.R_reads' h27
          rw [hml] at hr
          have ho := Kd.R_reads' hxo
          rw [ofL_len] at ho
          refine ⟨⟨hF.os.trans hBc.os, hF.tape.trans hBc.tape, hF.output.trans hBc.output, Nat.le_trans hBc.size hF.size, fun k hk => (hF.block k (Nat.lt_of_lt_of_le hk hBc.size) (by omega) (by omega)).trans (hBc.block k hk)⟩, w4.heap.size, Nat.le_of_lt hs4, rfl, ?_⟩
          exact ⟨⟨Am, cm, (hoth 3 (by decide) (by decide)).trans (hcs 3 _ rfl), hr.2.1, hr.2.2⟩, by rw [← hN]; exact hx4, ⟨Ao, co, (hoth 5 (by decide) (by decide)).trans (hcs 5 _ rfl), ho.2.1, ho.2.2⟩, by rw [← hN]; exact hx6⟩
  · have hEU' : ¬ (n : Int) = (u : Int) := by omega
    go_wp2_with fail
    go_ret2
    exact ⟨HM.out.2, rfl⟩
end
end Go.Proofs.Ytmfcefakpfbaoaa.PMatch
end
