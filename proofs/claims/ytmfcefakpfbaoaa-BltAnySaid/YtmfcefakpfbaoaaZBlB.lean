/- Lemmas for RowBltAny. -/
import Derived.Test.YtmfcefakpfbaoaaQD
import Derived.Test.YtmfcefakpfbaoaaZOrdL
import Derived.Laws.CopyOwn
import Derived.IntWalk
section
set_option linter.unusedVariables false
set_option linter.unusedSimpArgs false
namespace Go.Proofs.Ytmfcefakpfbaoaa.PMatch
open Go.RowKit Go.Proofs.YtmfcefakpfbaoaaW.PrintWords Go.Proofs.YtmfcefakpfbaoaaW.PrintLast Go.Proofs.YtmfcefakpfbaoaaW.PrintMore
theorem mul_one' (n : Int) (h0 : 0 ≤ n) (h1 : n ≤ 1000000) : PBits.bits_Mul.f 1 n = some (0, n) := by
  have e : Go.bits .and .u64 n 4294967295 = n := by
    have := bits_mask .u64 63 (by decide) (fun n h₀ h₁ => by rw [IntKind.wrap_u64]; omega) 32 (by decide) n h0 (by omega)
    rw [show (4294967295 : Int) = 2 ^ 32 - 1 by decide, this]
    exact Int.emod_eq_of_lt h0 (by omega)
  have e1 : Go.bits .and .u64 1 4294967295 = 1 := by decide +kernel
  have w : ∀ x : Int, 0 ≤ x → x ≤ 1000000 → IntKind.u64.wrap x = x := fun x a b => IntWalk.u64_in x ⟨by omega, by omega⟩
  have d : n / 4294967296 = 0 := Int.ediv_eq_zero_of_lt h0 (by omega)
  unfold PBits.bits_Mul.f PBits.bits_Mul64.f
  rw [e, e1, d]
  simp only [Int.mul_zero, Int.zero_mul, Int.one_mul, Option.bind_some, show (1 : Int) / 4294967296 = 0 by decide, w 0 (by decide) (by decide), w n h0 h1, d, Int.add_zero, Int.zero_add, show (0 : Int) / 4294967296 = 0 by decide]
  rfl
def rowL (x : Int) (n j : Nat) : List Int := List.replicate j x ++ List.replicate (n - j) 0
theorem rowL_len {x : Int} {n j : Nat} (h : j ≤ n) : (rowL x n j).length = n := by unfold rowL; simp; omega
theorem rowL_rd {x : Int} {n j i : Nat} (h : i < j) : rdOf 0 (rowL x n j) (i : Int) = x := by
  unfold rdOf rowL
  rw [Int.toNat_natCast, List.getD_eq_getElem?_getD, List.getElem?_append_left (by simpa using h), List.getElem?_replicate, if_pos h]; rfl
theorem rowL_set {x : Int} {n j : Nat} (h : j < n) : (rowL x n j).set j x = rowL x n (j + 1) := by
  unfold rowL
  obtain ⟨m, rfl⟩ : ∃ m, n = j + 1 + m := ⟨n - j - 1, by omega⟩
  rw [show j + 1 + m - j = m + 1 by omega, show j + 1 + m - (j + 1) = m by omega, List.set_append_right _ _ (by simp), List.length_replicate, Nat.sub_self, List.replicate_succ, List.set_cons_zero, ← List.replicate_append_replicate (n := j) (m := 1), List.append_assoc]
  rfl
theorem row_puts {x : Int} {n cap g : Nat} {base : Nat} {ok : Nat → Prop} : ∀ (m j : Nat) (W : World), j + m ≤ n → Kd.R (Kd.int .i64) 3 W base ok (.slice (some ⟨g, 0, none⟩) n cap) (rowL x n j) →
    Kd.R (Kd.int .i64) 3 (W.setCells g j (List.replicate m (.int .i64 x))) base ok (.slice (some ⟨g, 0, none⟩) n cap) (rowL x n (j + m))
  | 0, j, W, _, h => h
  | m + 1, j, W, hm, h => by
    have h1 := Kd.R_putn (enc := Value.int .i64) (h1 := fun _ => rfl) h (j : Int) x
    rw [Int.toNat_natCast, rowL_set (by omega)] at h1
    have h2 := row_puts m (j + 1) _ (by omega) h1
    rw [show j + 1 + m = j + (m + 1) by omega] at h2
    exact h2
theorem below_puts {B g : Nat} {w0 : World} (hg : B ≤ g) : ∀ (cs : List Value) (o : Nat) (W : World), Below B w0 W → Below B w0 (W.setCells g o cs)
  | [], _, _, h => h
  | v :: cs, o, W, h => below_puts hg cs (o + 1) _ (h.setCell hg _)
def slices_Repeat_int_int.f (l0 : List Int) (a1 : Int) : Option (List Int) := if l0.length = 1 ∧ 0 ≤ a1 ∧ a1 ≤ 1000000 then some (List.replicate a1.toNat (rd l0 0)) else none
theorem rowL_full {x : Int} {n : Nat} : rowL x n n = List.replicate n x := by unfold rowL; simp
theorem rowL_none {x : Int} {n : Nat} : rowL x n 0 = List.replicate n 0 := by unfold rowL; simp
set_option maxRecDepth 100000 in
set_option maxHeartbeats 4000000 in
theorem slices_Repeat_int_int.calls (A0 : Option Addr) (c0 : Nat) (l0 : List Int) (a1 : Int) (r : List Int) (w : World) (hr0 : Kd.C (Kd.int .i64) w A0 l0.length l0) (hc0 : l0.length ≤ c0) (h : slices_Repeat_int_int.f l0 a1 = some r) :
    Calls Try.prog 46 #[.slice A0 l0.length c0, .int .i64 a1] w fun e w' => ∃ v0_ : Value, e = .returned (v0_) ∧ Kd.R (Kd.int .i64) 3 w' w.heap.size (fun _ => True) v0_ r ∧ Below w.heap.size w w' := by
  unfold slices_Repeat_int_int.f at h
  split at h
  case isFalse => cases h
  rename_i hcond
  obtain ⟨h1, h2, h3⟩ := hcond
  injection h with h
  obtain ⟨n, rfl⟩ := Int.eq_ofNat_of_zero_le h2
  obtain ⟨ad, rfl, hx⟩ := Kd.at_int hr0 0 (by decide) (by omega)
  obtain ⟨x, hxx⟩ : ∃ x, rd l0 0 = x := ⟨_, rfl⟩
  rw [hxx] at h hx
  have HX := Lib.hid (show w.cell? (ad.add 0) = some (.int .i64 x) from hx)
  have HE := Lib.hid (show List.replicate n x = r from h)
  rw [h1]
  have HM := Lib.hid (mul_one' (n : Int) h2 h3)
  have hc1 : 1 ≤ c0 := by omega
  clear h h1 hx hxx hr0 hc0
  have hcu : IntKind.u64.wrap (n : Int) = n := IntWalk.u64_in (n : Int) ⟨by omega, by omega⟩
  have hci : IntKind.i64.wrap (n : Int) = n := IntWalk.i64_in (n : Int) ⟨by omega, by omega⟩
  go_enter Try.func46, Try.ntmps46
  go_wp2_with fail
  refine (PBits.bits_Mul.calls 1 (n : Int) 0 (n : Int) w HM.out).mono ?_
  rintro e w1 ⟨rfl, hd1⟩
  have hb1 : Below w.heap.size w w1 := by first | exact pw_below_drew0 hd1 | exact hd1.below | (obtain ⟨k, rfl⟩ := hd1; exact pw_below_drewN (Below.refl _ _) k)
  go_wp2_with (first | ((with_reducible refine gate_dst (N := 30) rfl ?_); refine Kd.R_make (Kd.int .i64) _ 3 rfl (N := 30) rfl 31 _ _ rfl (n : Int) rfl rfl Try.underlying31 (.int .i64 0) 8 infoInt rfl (by decide) (by omega) (0 : Int) (ok := fun _ => True) (okp := fun _ => True) rfl (fun _ hk => hk) trivial (by omega) (by omega) hb1 hb1.size ?_; intro v2 w2 ho hb2 hg_ hnew_; have HO := Lib.hid ho; have HB2 := Lib.hid hb2; have hgw := hg_; clear ho hg_ hb2))
  rw [Int.toNat_natCast, ← rowL_none (x := x)] at HO
  obtain ⟨g, cap, rfl, hbg⟩ : ∃ g cap, v2 = .slice (some ⟨g, 0, none⟩) n cap ∧ w.heap.size ≤ g := by
    obtain ⟨inner, hown⟩ := Kd.R_own HO.out
    rcases hown.2 with ⟨e, _⟩ | ⟨g, cap, cur, e, hbg, _⟩
    · obtain ⟨b, hb, _⟩ := hnew_
      rw [e] at hb
      simp [Value.ownBlock] at hb
    · exact ⟨g, cap, by rw [e, rowL_len (Nat.zero_le _)], hbg⟩
  have hsz : (Try.prog.info? 3).map (·.size) = some 1 := by kernel_rfl
  have HCP := Lib.hid (show ∃ W m, (Builtin.copy_ #[31, 31] 3 #[.slice (some ⟨g, 0, none⟩) n cap, .slice (some ad) 1 c0]).run Try.prog w2 = .ok (goInt (m : Nat)) W ∧ m ≤ n ∧ (n ≠ 0 → 1 ≤ m) ∧ Kd.R (Kd.int .i64) 3 W w.heap.size (fun _ => True) (.slice (some ⟨g, 0, none⟩) n cap) (rowL x n m) ∧ Below w.heap.size w W from by
    by_cases h0 : n = 0
    · subst h0
      exact ⟨w2, 0, run_copy_none w2 31 31 3 3 _ _ 0 cap 1 c0 Try.underlying31 hsz (by simp), Nat.le_refl _, fun h => absurd rfl h, HO.out, HB2.out⟩
    · refine ⟨_, 1, run_copy_cells w2 31 31 3 3 g 0 n cap ad 1 c0 [.int .i64 x] Try.underlying31 hsz (Nat.min_eq_left (show 1 ≤ n by omega)).symm ?_ ?_ ?_ (by simp [Value.oneCell']), by omega, fun _ => Nat.le_refl _, ?_, ?_⟩
      · intro j v hj
        match j, hj with
        | 0, hj => cases hj; exact (HB2.out.cell (World.block_lt_of_cell? w _ HX.out)).trans HX.out
        | j + 1, hj => simp at hj
      · intro j hj
        have := (Kd.R_celln (enc := Value.int .i64) (h1 := fun _ => rfl) 0 HO.out (j : Int) (by omega) (by simp at hj; omega)).1
        rw [Int.toNat_natCast] at this
        rw [Nat.zero_add, this]; rfl
      · intro j hj
        have := (Kd.R_celln (enc := Value.int .i64) (h1 := fun _ => rfl) 0 HO.out (j : Int) (by omega) (by simp at hj; omega)).2
        rw [Int.toNat_natCast] at this
        rw [Nat.zero_add, this]
      · exact row_puts 1 0 w2 (by omega) HO.out
      · exact below_puts hbg _ 0 w2 HB2.out)
  obtain ⟨W3, m, hcp, hm1, hm2, hr3, hb3⟩ := HCP.out
  rw [hcp]
  have HR3 := Lib.hid hr3
  have HB3 := Lib.hid hb3
  clear hcp hr3 hb3 HCP HO HB2 hgw hnew_
  go_wp2_with fail
  go_loopw [8] (fun v W => ∃ j : Nat, v = .int .i64 j ∧ j ≤ n ∧ (n ≠ 0 → 1 ≤ j) ∧ Kd.R (Kd.int .i64) 3 W w.heap.size (fun _ => True) (.slice (some ⟨g, 0, none⟩) n cap) (rowL x n j) ∧ Below w.heap.size w W) (fun v _ => n - (intOf v).toNat)
  case atStart => exact ⟨m, rfl, hm1, hm2, HR3.out, HB3.out⟩
  case round =>
    obtain ⟨j, rfl, hj, hj1, hr, hb⟩ := hrel
    have HR := Lib.hid hr
    have HB := Lib.hid hb
    clear hr hb HR3 HB3
    by_cases hlt : j < n
    · have hlt' : (j : Int) < (n : Int) := by omega
      have hj0 : (0 : Int) ≤ (j : Int) := by omega
      have hjn : (j : Int) ≤ (n : Int) := by omega
      have hj2 := hj1 (by omega)
      have hcap : n ≤ cap := by have h8 := (Kd.R_reads' HR.out).2.1; have h9 := rowL_len (x := x) hj; omega
      have hjc : j ≤ cap := by omega
      have hcj : ¬ cap = j := by omega
      obtain ⟨k, hk⟩ : ∃ k, k = Nat.min j (n - j) := ⟨_, rfl⟩
      have hk1 : k ≤ j := by rw [hk]; exact Nat.min_le_left _ _
      have hk2 : k ≤ n - j := by rw [hk]; exact Nat.min_le_right _ _
      have hk3 : 1 ≤ k := by rw [hk]; exact Nat.le_min.2 ⟨hj2, by omega⟩
      have HRD := Lib.hid (Kd.R_drew HR.out)
      have HC := Lib.hid (show (Builtin.copy_ #[31, 31] 3 #[.slice (some ⟨g, j, none⟩) (n - j) (cap - j), .slice (some ⟨g, 0, none⟩) j cap]).run Try.prog wr.drew = .ok (goInt (k : Nat)) (wr.drew.setCells g j (List.replicate k (.int .i64 x))) from by
        have h9 := run_copy_cells (P := Try.prog) wr.drew 31 31 3 3 g j (n - j) (cap - j) ⟨g, 0, none⟩ j cap (List.replicate k (.int .i64 x)) Try.underlying31 hsz (by rw [List.length_replicate]; exact hk) ?_ ?_ ?_ (by intro v hv; rw [(List.mem_replicate.1 hv).2]; rfl)
        · rw [List.length_replicate] at h9; exact h9
        · intro i v hi
          have hik : i < k := by have := (List.getElem?_eq_some_iff.1 hi).1; simpa using this
          rw [List.getElem?_replicate, if_pos hik] at hi
          cases hi
          have h9 := (Kd.R_celln (enc := Value.int .i64) (h1 := fun _ => rfl) 0 HRD.out (i : Int) (by omega) (by omega)).1
          rw [Int.toNat_natCast] at h9
          rw [add_plain, h9, rowL_rd (by omega)]
        · intro i hi
          rw [List.length_replicate] at hi
          have h9 := (Kd.R_celln (enc := Value.int .i64) (h1 := fun _ => rfl) 0 HRD.out ((j + i : Nat) : Int) (by omega) (by omega)).1
          rw [Int.toNat_natCast] at h9
          rw [h9]; rfl
        · intro i hi
          rw [List.length_replicate] at hi
          have h9 := (Kd.R_celln (enc := Value.int .i64) (h1 := fun _ => rfl) 0 HRD.out ((j + i : Nat) : Int) (by omega) (by omega)).2
          rw [Int.toNat_natCast] at h9
          rw [h9])
      have HR4 := Lib.hid (row_puts k j wr.drew (by omega) HRD.out)
      have HB4 := Lib.hid (below_puts hbg (List.replicate k (.int .i64 x)) j wr.drew HB.out.drew)
      have hcp := HC.out
      have hjk : j + k ≤ n := by omega
      have hwj : IntKind.i64.wrap ((j : Int) + (k : Int)) = (j : Int) + (k : Int) := IntWalk.i64_in _ ⟨by omega, by omega⟩
      clear hk hk2
      go_wp2_with fail
      refine OrdL.begin_ (S := fun W => True) [] [] (by kernel_rfl) ?_ (fun hHeld => ?_)
      focus ((try dsimp only); first | done | trivial)
      refine OrdL.take (i := 0) (d := (some 38)) (v := ?_) rfl rfl (by kernel_rfl) (by kernel_rfl) (by kernel_rfl) (by kernel_rfl) (fun _ _ _ h => h) (by assumption) ⟨by rfl, ?_⟩ ?_
      rotate_left
      focus (intro w hSw; (try dsimp only at hSw); go_simp; try with_reducible rfl)
      (try simp only [Act.put, List.getElem_toArray, List.getElem_cons_zero, List.getElem_cons_succ, List.setIfInBounds_toArray, List.set_cons_zero, List.set_cons_succ])
      refine OrdL.take (i := 1) (d := (some 39)) (v := ?_) rfl rfl (by kernel_rfl) (by kernel_rfl) (by kernel_rfl) (by kernel_rfl) (fun _ _ _ h => h) (by assumption) ⟨by rfl, ?_⟩ ?_
      rotate_left
      focus (intro w hSw; (try dsimp only at hSw); go_simp; try with_reducible rfl)
      (try simp only [Act.put, List.getElem_toArray, List.getElem_cons_zero, List.getElem_cons_succ, List.setIfInBounds_toArray, List.set_cons_zero, List.set_cons_succ])
      refine OrdL.take (i := 2) (d := (some 40)) (v := ?_) rfl rfl (by kernel_rfl) (by kernel_rfl) (by kernel_rfl) (by kernel_rfl) (fun _ _ _ h => h) (by assumption) ⟨by rfl, ?_⟩ ?_
      rotate_left
      focus (intro w hSw; (try dsimp only at hSw); go_simp; try with_reducible rfl)
      (try simp only [Act.put, List.getElem_toArray, List.getElem_cons_zero, List.getElem_cons_succ, List.setIfInBounds_toArray, List.set_cons_zero, List.set_cons_succ])
      refine OrdL.take (i := 3) (d := (some 41)) (v := ?_) rfl rfl (by kernel_rfl) (by kernel_rfl) (by kernel_rfl) (by kernel_rfl) (fun _ _ _ h => h) (by assumption) ⟨by rfl, ?_⟩ ?_
      rotate_left
      focus (intro w hSw; (try dsimp only at hSw); go_simp; try with_reducible rfl)
      (try simp only [Act.put, List.getElem_toArray, List.getElem_cons_zero, List.getElem_cons_succ, List.setIfInBounds_toArray, List.set_cons_zero, List.set_cons_succ])
      refine OrdL.take (i := 4) (d := (some 42)) (v := ?_) rfl rfl (by kernel_rfl) (by kernel_rfl) (by kernel_rfl) (by kernel_rfl) (fun _ _ _ h => h) (by assumption) ⟨by rfl, ?_⟩ ?_
      rotate_left
      focus (intro w hSw; (try dsimp only at hSw); go_simp; try with_reducible rfl)
      (try simp only [Act.put, List.getElem_toArray, List.getElem_cons_zero, List.getElem_cons_succ, List.setIfInBounds_toArray, List.set_cons_zero, List.set_cons_succ])
      refine OrdL.take (i := 5) (d := (some 43)) (v := ?_) rfl rfl (by kernel_rfl) (by kernel_rfl) (by kernel_rfl) (by kernel_rfl) (fun _ _ _ h => h) (by assumption) ⟨by rfl, ?_⟩ ?_
      rotate_left
      focus (intro w hSw; (try dsimp only at hSw); go_simp; try with_reducible rfl)
      (try simp only [Act.put, List.getElem_toArray, List.getElem_cons_zero, List.getElem_cons_succ, List.setIfInBounds_toArray, List.set_cons_zero, List.set_cons_succ])
      refine OrdL.take (i := 6) (d := (some 44)) (v := ?_) rfl rfl (by kernel_rfl) (by kernel_rfl) (by kernel_rfl) (by kernel_rfl) (fun _ _ _ h => h) (by assumption) ⟨by rfl, ?_⟩ ?_
      rotate_left
      focus (intro w hSw; (try dsimp only at hSw); go_simp; try with_reducible rfl)
      (try simp only [Act.put, List.getElem_toArray, List.getElem_cons_zero, List.getElem_cons_succ, List.setIfInBounds_toArray, List.set_cons_zero, List.set_cons_succ])
      refine OrdL.step (i := 7) rfl (by decide) (by kernel_rfl) (fun Kc hKc => ?_)
      simp only [List.getElem_toArray, List.getElem_cons_zero, List.getElem_cons_succ]
      go_simp
      go_wp2_with fail
      refine hKc.out _ _ ?_ (fun hHeld => ?_)
      focus ((try dsimp only); first | done | trivial)
      clear hKc Kc
      (try simp only [Act.put, List.getElem_toArray, List.getElem_cons_zero, List.getElem_cons_succ, List.setIfInBounds_toArray, List.set_cons_zero, List.set_cons_succ])
      refine OrdL.take (i := 8) (d := (some 46)) (v := ?_) rfl rfl (by kernel_rfl) (by kernel_rfl) (by kernel_rfl) (by kernel_rfl) (fun _ _ _ h => h) (by assumption) ⟨by rfl, ?_⟩ ?_
      rotate_left
      focus (intro w hSw; (try dsimp only at hSw); go_simp; try with_reducible rfl)
      (try simp only [Act.put, List.getElem_toArray, List.getElem_cons_zero, List.getElem_cons_succ, List.setIfInBounds_toArray, List.set_cons_zero, List.set_cons_succ])
      refine OrdL.take (i := 9) (d := (some 8)) (v := ?_) rfl rfl (by kernel_rfl) (by kernel_rfl) (by kernel_rfl) (by kernel_rfl) (fun _ _ _ h => h) (by assumption) ⟨by rfl, ?_⟩ ?_
      rotate_left
      focus (intro w hSw; (try dsimp only at hSw); go_simp; try with_reducible rfl)
      (try simp only [Act.put, List.getElem_toArray, List.getElem_cons_zero, List.getElem_cons_succ, List.setIfInBounds_toArray, List.set_cons_zero, List.set_cons_succ])
      refine OrdL.done (by kernel_rfl) ?_ _
      go_wp2_with fail
      go_roundw
      case rel => exact ⟨j + k, by rw [Int.natCast_add], hjk, fun _ => Nat.le_trans hk3 (Nat.le_add_left _ _), HR4.out, HB4.out⟩
      case measure => simp [intOf]; omega
    · obtain rfl : j = n := by omega
      have HR5 := Lib.hid (show Kd.R _ 3 wr _ _ _ (List.replicate j x) by have h9 := HR.out; rwa [rowL_full] at h9)
      go_wp2_with fail
      go_ret
      exact ⟨_, rfl, by rw [← HE.out]; exact HR5.out, HB.out⟩
end Go.Proofs.Ytmfcefakpfbaoaa.PMatch
end
