/- Lemmas for RowBltAny. -/
import Derived.Test.YtmfcefakpfbaoaaZBmJ
import Derived.Deep.RegionWith
section
set_option linter.unusedVariables false
set_option linter.unusedSimpArgs false
namespace Go.Proofs.Ytmfcefakpfbaoaa.PMatch
open Go.RowKit Go.Proofs.YtmfcefakpfbaoaaW.PrintWords Go.Proofs.YtmfcefakpfbaoaaW.PrintLast Go.Proofs.YtmfcefakpfbaoaaW.PrintMore
set_option maxRecDepth 100000 in
set_option maxHeartbeats 4000000 in
theorem c_SameInts {A A' : Option Addr} {c c' : Nat} {l : List Int} {w : World} (h : Kd.C (Kd.int .i64) w A l.length l) (h' : Kd.C (Kd.int .i64) w A' l.length l) :
    Calls Try.prog 27 #[.slice A l.length c, .slice A' l.length c'] w fun e w' => e = .returned (.bool true) ∧ Drawn0 w w' := by
  have hmx := Kd.C_max h
  have HC := Lib.hid (And.intro h h')
  clear h h'
  obtain ⟨n, hn⟩ : ∃ n, n = l.length := ⟨_, rfl⟩
  rw [← hn] at hmx ⊢
  have HN := Lib.hid hn
  clear hn
  go_enter Try.func27, Try.ntmps27
  go_wp2_with fail
  go_loopw [5] (fun v W => ∃ i : Nat, v = .int .i64 i ∧ i ≤ n ∧ ∃ nd, W = w.drewN nd) (fun v _ => n - (intOf v).toNat)
  case atStart => exact ⟨0, rfl, Nat.zero_le _, 0, rfl⟩
  case round =>
    obtain ⟨i, rfl, hi, nd, rfl⟩ := hrel
    by_cases hil : i < n
    · have hil' : (i : Int) < (n : Int) := by omega
      have hi0 : (0 : Int) ≤ (i : Int) := by omega
      obtain ⟨ad, hA, hc⟩ := Kd.at_int (Kd.C_drewN HC.out.1 nd) (i : Int) hi0 (by rw [← HN.out]; exact hil')
      obtain ⟨ad', hA', hc'⟩ := Kd.at_int (Kd.C_drewN HC.out.2 nd) (i : Int) hi0 (by rw [← HN.out]; exact hil')
      subst hA hA'
      rw [Int.toNat_natCast] at hc hc'
      obtain ⟨wi, hwi⟩ : ∃ x, x = w.drewN nd := ⟨_, rfl⟩
      rw [← hwi] at hc hc' ⊢
      have HW := Lib.hid hwi
      clear hwi
      go_wp2_with fail
      go_region
      go_wp2_with fail
      exact ⟨⟨i + 1, by rw [Int.natCast_add]; rfl, by omega, nd + 1, by rw [HW.out]; exact World.drewN_drewN _ _ _⟩, by simp [intOf]; omega⟩
    · have hil' : ¬ (i : Int) < (n : Int) := by omega
      go_wp2_with fail
      go_ret
      exact ⟨rfl, ⟨nd, rfl⟩⟩
set_option maxRecDepth 100000 in
set_option maxHeartbeats 4000000 in
theorem c_SameLists {A A' : Option Addr} {c c' : Nat} {l : List (List Int)} {w : World} (h : Kd.C (Kd.slice 3 (Kd.int .i64)) w A l.length l) (h' : Kd.C (Kd.slice 3 (Kd.int .i64)) w A' l.length l) :
    Calls Try.prog 25 #[.slice A l.length c, .slice A' l.length c'] w fun e w' => e = .returned (.bool true) ∧ Drawn0 w w' := by
  have hmx := Kd.C_max h
  have HC := Lib.hid (And.intro h h')
  clear h h'
  obtain ⟨n, hn⟩ : ∃ n, n = l.length := ⟨_, rfl⟩
  rw [← hn] at hmx ⊢
  have HN := Lib.hid hn
  clear hn
  go_enter Try.func25, Try.ntmps25
  go_wp2_with fail
  go_loopw [5] (fun v W => ∃ i : Nat, v = .int .i64 i ∧ i ≤ n ∧ ∃ nd, W = w.drewN nd) (fun v _ => n - (intOf v).toNat)
  case atStart => exact ⟨0, rfl, Nat.zero_le _, 0, rfl⟩
  case round =>
    obtain ⟨i, rfl, hi, nd, rfl⟩ := hrel
    by_cases hil : i < n
    · have hil' : (i : Int) < (n : Int) := by omega
      have hi0 : (0 : Int) ≤ (i : Int) := by omega
      obtain ⟨ad, Ai, ci, hA, hc, _, hCi⟩ := at_L4 (Kd.C_drewN HC.out.1 nd) (i : Int) hi0 (by rw [← HN.out]; exact hil')
      obtain ⟨ad', Ai', ci', hA', hc', _, hCi'⟩ := at_L4 (Kd.C_drewN HC.out.2 nd) (i : Int) hi0 (by rw [← HN.out]; exact hil')
      subst hA hA'
      rw [Int.toNat_natCast] at hc hc'
      obtain ⟨li, hli⟩ : ∃ li, li = rd_L4 l (i : Int) := ⟨_, rfl⟩
      rw [← hli] at hc hc' hCi hCi'
      obtain ⟨wi, hwi⟩ : ∃ x, x = w.drewN nd := ⟨_, rfl⟩
      rw [← hwi] at hc hc' hCi hCi' ⊢
      have HW := Lib.hid hwi
      have HCL := Lib.hid (fun k => c_SameInts (c := ci) (c' := ci') (Kd.C_drewN hCi k) (Kd.C_drewN hCi' k))
      clear hwi hli hCi hCi'
      go_wp2_with fail
      go_quiet ((go_at_call 27; refine (HCL.out _).mono ?_; rintro e w' ⟨rfl, ⟨nd, rfl⟩⟩; first | exact ⟨rfl, _, World.drewN_drewN _ _ _⟩ | exact ⟨rfl, _, rfl⟩))
      go_wp2_with fail
      refine ⟨⟨i + 1, by rw [Int.natCast_add]; rfl, by omega, ?_⟩, by simp [intOf]; omega⟩
      first
        | exact ⟨_, by rw [HW.out]; exact World.drewN_drewN _ _ _⟩
        | (trace_state; fail)
    · have hil' : ¬ (i : Int) < (n : Int) := by omega
      go_wp2_with fail
      go_ret
      exact ⟨rfl, ⟨nd, rfl⟩⟩
end Go.Proofs.Ytmfcefakpfbaoaa.PMatch
end
section
set_option linter.unusedVariables false
set_option linter.unusedSimpArgs false
namespace Go.Proofs.Ytmfcefakpfbaoaa.PMatch
open Go.RowKit Go.Proofs.YtmfcefakpfbaoaaW.PrintWords Go.Proofs.YtmfcefakpfbaoaaW.PrintLast Go.Proofs.YtmfcefakpfbaoaaW.PrintMore
set_option maxRecDepth 100000 in
set_option maxHeartbeats 4000000 in
theorem c_SameNames {A A' : Option Addr} {c c' : Nat} {l : List ByteArray} {w : World} (h : Kd.C Kd.string w A l.length l) (h' : Kd.C Kd.string w A' l.length l) :
    Calls Try.prog 63 #[.slice A l.length c, .slice A' l.length c'] w fun e w' => e = .returned (.bool true) ∧ Drawn0 w w' := by
  have hmx := Kd.C_max h
  have HC := Lib.hid (And.intro h h')
  clear h h'
  obtain ⟨n, hn⟩ : ∃ n, n = l.length := ⟨_, rfl⟩
  rw [← hn] at hmx ⊢
  have HN := Lib.hid hn
  clear hn
  go_enter Try.func63, Try.ntmps63
  go_wp2_with fail
  go_loopw [5] (fun v W => ∃ i : Nat, v = .int .i64 i ∧ i ≤ n ∧ ∃ nd, W = w.drewN nd) (fun v _ => n - (intOf v).toNat)
  case atStart => exact ⟨0, rfl, Nat.zero_le _, 0, rfl⟩
  case round =>
    obtain ⟨i, rfl, hi, nd, rfl⟩ := hrel
    by_cases hil : i < n
    · have hil' : (i : Int) < (n : Int) := by omega
      have hi0 : (0 : Int) ≤ (i : Int) := by omega
      obtain ⟨ad, hA, hc⟩ := Kd.at_string (Kd.C_drewN HC.out.1 nd) (i : Int) hi0 (by rw [← HN.out]; exact hil')
      obtain ⟨ad', hA', hc'⟩ := Kd.at_string (Kd.C_drewN HC.out.2 nd) (i : Int) hi0 (by rw [← HN.out]; exact hil')
      subst hA hA'
      rw [Int.toNat_natCast] at hc hc'
      obtain ⟨x, hx⟩ : ∃ x, x = rdOf ByteArray.empty l (i : Int) := ⟨_, rfl⟩
      rw [← hx] at hc hc'
      clear hx
      obtain ⟨wi, hwi⟩ : ∃ x, x = w.drewN nd := ⟨_, rfl⟩
      rw [← hwi] at hc hc' ⊢
      have HW := Lib.hid hwi
      clear hwi
      go_wp2_with fail
      go_region
      go_wp2_with fail
      exact ⟨⟨i + 1, by rw [Int.natCast_add]; rfl, by omega, nd + 1, by rw [HW.out]; exact World.drewN_drewN _ _ _⟩, by simp [intOf]; omega⟩
    · have hil' : ¬ (i : Int) < (n : Int) := by omega
      go_wp2_with fail
      go_ret
      exact ⟨rfl, ⟨nd, rfl⟩⟩
set_option maxRecDepth 100000 in
set_option maxHeartbeats 4000000 in
theorem c_SameUses {A A' : Option Addr} {c c' : Nat} {l : List S47} {w : World} (h : Kd.C k47 w A l.length l) (h' : Kd.C k47 w A' l.length l) :
    Calls Try.prog 64 #[.slice A l.length c, .slice A' l.length c'] w fun e w' => e = .returned (.bool true) ∧ Drawn0 w w' := by
  have hmx := Kd.C_max h
  have HC := Lib.hid (And.intro h h')
  clear h h'
  obtain ⟨n, hn⟩ : ∃ n, n = l.length := ⟨_, rfl⟩
  rw [← hn] at hmx ⊢
  have HN := Lib.hid hn
  clear hn
  have hu47 := Try.underlying47
  go_enter Try.func64, Try.ntmps64
  go_wp2_with fail
  go_loopw [5] (fun v W => ∃ i : Nat, v = .int .i64 i ∧ i ≤ n ∧ ∃ nd, W = w.drewN nd) (fun v _ => n - (intOf v).toNat)
  case atStart => exact ⟨0, rfl, Nat.zero_le _, 0, rfl⟩
  case round =>
    obtain ⟨i, rfl, hi, nd, rfl⟩ := hrel
    by_cases hil : i < n
    · have hil' : (i : Int) < (n : Int) := by omega
      have hi0 : (0 : Int) ≤ (i : Int) := by omega
      obtain ⟨ad, hA, hc, hd, he⟩ := at_T47 (Kd.C_drewN HC.out.1 nd) (i : Int) hi0 (by rw [← HN.out]; exact hil')
      obtain ⟨ad', hA', hc', hd', he'⟩ := at_T47 (Kd.C_drewN HC.out.2 nd) (i : Int) hi0 (by rw [← HN.out]; exact hil')
      subst hA hA'
      rw [Int.toNat_natCast] at hc hc' hd hd' he he'
      obtain ⟨x, hx⟩ : ∃ x, x = rd_T47 l (i : Int) := ⟨_, rfl⟩
      rw [← hx] at hc hc' hd hd' he he'
      clear hx
      obtain ⟨wi, hwi⟩ : ∃ x, x = w.drewN nd := ⟨_, rfl⟩
      rw [← hwi] at hc hc' hd hd' he he' ⊢
      have HW := Lib.hid hwi
      clear hwi
      go_wp2_with fail
      go_region
      go_wp2_with fail
      exact ⟨⟨i + 1, by rw [Int.natCast_add]; rfl, by omega, nd + 1, by rw [HW.out]; exact World.drewN_drewN _ _ _⟩, by simp [intOf]; omega⟩
    · have hil' : ¬ (i : Int) < (n : Int) := by omega
      go_wp2_with fail
      go_ret
      exact ⟨rfl, ⟨nd, rfl⟩⟩
set_option maxRecDepth 100000 in
set_option maxHeartbeats 4000000 in
theorem c_SamePart {A0 A1 B0 B1 : Option Addr} {c0 c1 d0 d1 : Nat} {l : List ByteArray} {u : List S47} {w : World} (h0 : Kd.C Kd.string w A0 l.length l) (h1 : Kd.C k47 w A1 u.length u) (k0 : Kd.C Kd.string w B0 l.length l) (k1 : Kd.C k47 w B1 u.length u) :
    Calls Try.prog 42 #[.agg #[.slice A0 l.length c0, .slice A1 u.length c1], .agg #[.slice B0 l.length d0, .slice B1 u.length d1]] w fun e w' => e = .returned (.bool true) ∧ Below w.heap.size w w' := by
  have b1 := (Below.refl w.heap.size w).alloc (Nat.le_refl _) (.cells #[.slice A0 l.length c0, .slice A1 u.length c1] 42)
  have b2 := b1.alloc b1.size (.cells #[.slice B0 l.length d0, .slice B1 u.length d1] 42)
  have HN := Lib.hid (c_SameNames (c := c0) (c' := d0) (Kd.C_below h0 b2) (Kd.C_below k0 b2))
  have HU := Lib.hid (fun k => c_SameUses (c := c1) (c' := d1) (Kd.C_drewN (Kd.C_below h1 b2) k) (Kd.C_drewN (Kd.C_below k1 b2) k))
  have HB := Lib.hid b2
  have hu42 := Try.underlying42
  clear h0 h1 k0 k1 b1 b2
  go_enter Try.func42, Try.ntmps42
  go_wp2_with fail
  refine HN.out.mono ?_
  rintro e w' ⟨rfl, ⟨nd, rfl⟩⟩
  go_wp2_with fail
  refine (HU.out nd).mono ?_
  rintro e w' ⟨rfl, ⟨nd2, rfl⟩⟩
  go_wp2_with fail
  go_ret
  exact ⟨rfl, pw_below_drewN HB.out _⟩
end Go.Proofs.Ytmfcefakpfbaoaa.PMatch
end
section
set_option linter.unusedVariables false
set_option linter.unusedSimpArgs false
namespace Go.Proofs.Ytmfcefakpfbaoaa.PMatch
open Go.RowKit Go.Proofs.YtmfcefakpfbaoaaW.PrintWords Go.Proofs.YtmfcefakpfbaoaaW.PrintLast Go.Proofs.YtmfcefakpfbaoaaW.PrintMore
set_option maxRecDepth 100000 in
set_option maxHeartbeats 4000000 in
theorem c_SameParts {A A' : Option Addr} {c c' : Nat} {l : List (List ByteArray × List S47)} {w : World} (h : Kd.C partK w A l.length l) (h' : Kd.C partK w A' l.length l) :
    Calls Try.prog 23 #[.slice A l.length c, .slice A' l.length c'] w fun e w' => e = .returned (.bool true) ∧ Below w.heap.size w w' := by
  have hmx := Kd.C_max h
  have HC := Lib.hid (And.intro h h')
  have hu42 := Try.underlying42
  clear h h'
  obtain ⟨n, hn⟩ : ∃ n, n = l.length := ⟨_, rfl⟩
  rw [← hn] at hmx ⊢
  have HN := Lib.hid hn
  clear hn
  go_enter Try.func23, Try.ntmps23
  go_wp2_with fail
  go_loopw [5] (fun v W => ∃ i : Nat, v = .int .i64 i ∧ i ≤ n ∧ Below w.heap.size w W) (fun v _ => n - (intOf v).toNat)
  case atStart => exact ⟨0, rfl, Nat.zero_le _, Below.refl _ _⟩
  case round =>
    obtain ⟨i, rfl, hi, hb⟩ := hrel
    obtain ⟨wi, rfl⟩ : ∃ x, x = wr := ⟨_, rfl⟩
    by_cases hil : i < n
    · have hil' : (i : Int) < (n : Int) := by omega
      have hi0 : (0 : Int) ≤ (i : Int) := by omega
      obtain ⟨ad, A0, c0, A1, c1, hA, p0, p1, k0, k1⟩ := at_part (Kd.C_below HC.out.1 hb) i (by rw [← HN.out]; exact hil)
      obtain ⟨bd, B0, d0, B1, d1, hA', q0, q1, m0, m1⟩ := at_part (Kd.C_below HC.out.2 hb) i (by rw [← HN.out]; exact hil)
      subst hA hA'
      obtain ⟨x, hx⟩ : ∃ x, x = l.getD i ([], []) := ⟨_, rfl⟩
      rw [← hx] at p0 p1 q0 q1 k0 k1 m0 m1
      have HP := Lib.hid (c_SamePart (w := wi.drew) (c0 := c0) (c1 := c1) (d0 := d0) (d1 := d1) (Kd.C_drew k0) (Kd.C_drew k1) (Kd.C_drew m0) (Kd.C_drew m1))
      have HW := Lib.hid (below_drew hb)
      clear hx k0 k1 m0 m1 hb
      go_wp2_with fail
      refine OrdL.begin_ (S := fun W => W.cell? (ad.add (i * 2)) = some (.slice A0 x.1.length c0) ∧ W.cell? ⟨(ad.add (i * 2)).block, (ad.add (i * 2)).off + 1, none⟩ = some (.slice A1 x.2.length c1) ∧ W.cell? (bd.add (i * 2)) = some (.slice B0 x.1.length d0) ∧ W.cell? ⟨(bd.add (i * 2)).block, (bd.add (i * 2)).off + 1, none⟩ = some (.slice B1 x.2.length d1)) [0, 1, 2, 4, 5, 6, 9] [8] (by kernel_rfl) ?_ (fun hHeld => ?_)
      focus ((try dsimp only); exact ⟨p0, p1, q0, q1⟩)
      refine OrdL.takeW (i := 0) (d := (some 17)) (v := ?_) rfl rfl (by decide) (by kernel_rfl) (by kernel_rfl) (by kernel_rfl) (fun _ _ _ h => h) ⟨by rfl, ?_⟩ ?_
      rotate_left
      focus (intro w; go_simp; try with_reducible rfl)
      (try simp only [Act.put, List.getElem_toArray, List.getElem_cons_zero, List.getElem_cons_succ, List.setIfInBounds_toArray, List.set_cons_zero, List.set_cons_succ])
      refine OrdL.takeW (i := 1) (d := (some 18)) (v := ?_) rfl rfl (by decide) (by kernel_rfl) (by kernel_rfl) (by kernel_rfl) (fun _ _ _ h => h) ⟨by rfl, ?_⟩ ?_
      rotate_left
      focus (intro w; go_simp; try with_reducible rfl)
      (try simp only [Act.put, List.getElem_toArray, List.getElem_cons_zero, List.getElem_cons_succ, List.setIfInBounds_toArray, List.set_cons_zero, List.set_cons_succ])
      refine OrdL.takeW (i := 2) (d := (some 19)) (v := ?_) rfl rfl (by decide) (by kernel_rfl) (by kernel_rfl) (by kernel_rfl) (fun _ _ _ h => h) ⟨by rfl, ?_⟩ ?_
      rotate_left
      focus (intro w; go_simp; try with_reducible rfl)
      (try simp only [Act.put, List.getElem_toArray, List.getElem_cons_zero, List.getElem_cons_succ, List.setIfInBounds_toArray, List.set_cons_zero, List.set_cons_succ])
      refine OrdL.take (i := 3) (d := (some 20)) (v := ?_) rfl rfl (by kernel_rfl) (by kernel_rfl) (by kernel_rfl) (by kernel_rfl) (fun _ _ _ h => h) (by assumption) ⟨by rfl, ?_⟩ ?_
      rotate_left
      focus (intro w hSw; (try dsimp only at hSw); go_simp; try with_reducible rfl)
      (try simp only [Act.put, List.getElem_toArray, List.getElem_cons_zero, List.getElem_cons_succ, List.setIfInBounds_toArray, List.set_cons_zero, List.set_cons_succ])
      refine OrdL.takeW (i := 4) (d := (some 21)) (v := ?_) rfl rfl (by decide) (by kernel_rfl) (by kernel_rfl) (by kernel_rfl) (fun _ _ _ h => h) ⟨by rfl, ?_⟩ ?_
      rotate_left
      focus (intro w; go_simp; try with_reducible rfl)
      (try simp only [Act.put, List.getElem_toArray, List.getElem_cons_zero, List.getElem_cons_succ, List.setIfInBounds_toArray, List.set_cons_zero, List.set_cons_succ])
      refine OrdL.takeW (i := 5) (d := (some 22)) (v := ?_) rfl rfl (by decide) (by kernel_rfl) (by kernel_rfl) (by kernel_rfl) (fun _ _ _ h => h) ⟨by rfl, ?_⟩ ?_
      rotate_left
      focus (intro w; go_simp; try with_reducible rfl)
      (try simp only [Act.put, List.getElem_toArray, List.getElem_cons_zero, List.getElem_cons_succ, List.setIfInBounds_toArray, List.set_cons_zero, List.set_cons_succ])
      refine OrdL.takeW (i := 6) (d := (some 23)) (v := ?_) rfl rfl (by decide) (by kernel_rfl) (by kernel_rfl) (by kernel_rfl) (fun _ _ _ h => h) ⟨by rfl, ?_⟩ ?_
      rotate_left
      focus (intro w; go_simp; try with_reducible rfl)
      (try simp only [Act.put, List.getElem_toArray, List.getElem_cons_zero, List.getElem_cons_succ, List.setIfInBounds_toArray, List.set_cons_zero, List.set_cons_succ])
      refine OrdL.take (i := 7) (d := (some 24)) (v := ?_) rfl rfl (by kernel_rfl) (by kernel_rfl) (by kernel_rfl) (by kernel_rfl) (fun _ _ _ h => h) (by assumption) ⟨by rfl, ?_⟩ ?_
      rotate_left
      focus (intro w hSw; (try dsimp only at hSw); go_simp; try with_reducible rfl)
      (try simp only [Act.put, List.getElem_toArray, List.getElem_cons_zero, List.getElem_cons_succ, List.setIfInBounds_toArray, List.set_cons_zero, List.set_cons_succ])
      refine OrdL.last (i := 8) rfl (by decide) (by decide) (by kernel_rfl) (fun Kc hKc => ?_)
      simp only [List.getElem_toArray, List.getElem_cons_zero, List.getElem_cons_succ]
      go_simp
      go_at_call 42
      refine HP.out.mono ?_
      rintro e w5 ⟨rfl, hb5⟩
      have HB5 := Lib.hid hb5
      clear hb5
      go_wp2_with fail
      refine hKc.out _ _ ?_
      clear hKc Kc
      (try simp only [Act.put, List.getElem_toArray, List.getElem_cons_zero, List.getElem_cons_succ, List.setIfInBounds_toArray, List.set_cons_zero, List.set_cons_succ])
      refine OrdL.takeW (i := 9) (d := (some 26)) (v := ?_) rfl rfl (by decide) (by kernel_rfl) (by kernel_rfl) (by kernel_rfl) (fun _ _ _ h => h) ⟨by rfl, ?_⟩ ?_
      rotate_left
      focus (intro w; go_simp; try with_reducible rfl)
      (try simp only [Act.put, List.getElem_toArray, List.getElem_cons_zero, List.getElem_cons_succ, List.setIfInBounds_toArray, List.set_cons_zero, List.set_cons_succ])
      refine OrdL.done (by kernel_rfl) ?_ _
      go_wp2_with fail
      exact ⟨⟨i + 1, by rw [Int.natCast_add]; rfl, by omega, HW.out.trans (HB5.out.mono HW.out.size)⟩, by simp [intOf]; omega⟩
    · have hil' : ¬ (i : Int) < (n : Int) := by omega
      go_wp2_with fail
      go_ret
      exact ⟨rfl, hb⟩
end Go.Proofs.Ytmfcefakpfbaoaa.PMatch
end
