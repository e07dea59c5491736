/- Lemmas and contracts for the statement RowRatIs: merged by wip/assemble.py. -/
import Derived.Test.YtpdghgfbfmaplaaGreatDoorQY
import Derived.Test.YtpdghgfbfmaplaaGreatDoorZRefI
import Derived.Test.YtpdghgfbfmaplaaGreatDoorZRatD
import Derived.Test.YtpdghgfbfmaplaaGreatDoorZOrdL
set_option maxRecDepth 100000
set_option maxHeartbeats 8000000
section
set_option linter.unusedVariables false
set_option linter.unusedSimpArgs false
namespace Go.Proofs.YtpdghgfbfmaplaaGreatDoor.Rf
open Go.RowKit Go.Proofs.YtpdghgfbfmaplaaGreatDoorW.PrintWords Go.Proofs.YtpdghgfbfmaplaaGreatDoor.Num Go.Proofs.YtpdghgfbfmaplaaGreatDoor.PRef Go.Proofs.YtpdghgfbfmaplaaGreatDoor.WhC Go.Proofs.YtpdghgfbfmaplaaGreatDoor.Dec Go.Proofs.YtpdghgfbfmaplaaGreatDoor.Wh
theorem _root_.Go.Proofs.YtpdghgfbfmaplaaGreatDoor.Wh.Fr.new3 {L : List (Nat × Nat × Value)} {s : Nat} {W : World} (h : Fr L s W) (v0 v1 v2 : Value) (t : TypeId) : Fr ((W.heap.size, 0, v0) :: (W.heap.size, 1, v1) :: (W.heap.size, 2, v2) :: L) (W.heap.size + 1) (W.alloc (.cells #[v0, v1, v2] t)) := by
 have h1 : Fr L s (W.alloc (.cells #[v0, v1, v2] t)) := h.go ((Below.refl _ _).alloc (Nat.le_refl _) _)
 have hs : W.heap.size + 1 ≤ (W.alloc (.cells #[v0, v1, v2] t)).heap.size := by simp
 exact (((h1.up (Nat.le_succ_of_le h.1) hs).cons (by omega) (by simp) (by simp)).cons (by omega) (by simp) (by simp)).cons (by omega) (by simp) (by simp)
section
variable {P : Nat → Prop} {w : World} {q : Rat}
theorem q_Read_yes {s : ByteArray} (hq : numB s = some q) (hz : s.size ≤ 140737488351232) (hP : ∀ k, w.heap.size ≤ k → P k) :
 Calls Tryz.prog 51 #[.string s] w fun e w' => ∃ r : QV, e = .returned (.tuple #[.agg #[.bool r.b, .slice r.nA r.nn r.nc, .slice r.dA r.dn r.dc], .bool true]) ∧ IsQ P 75 w' r q ∧ Below w.heap.size w w' := by
 refine (q_Read s hz hP).mono ?_
 rintro e w' ⟨⟨q', r, h1, h2, h3⟩ | ⟨h1, h2⟩, hb⟩
 · rw [hq] at h1; cases h1; exact ⟨r, h2, h3, hb⟩
 · rw [hq] at h1; cases h1
theorem q_Read_no {s : ByteArray} (hq : numB s = none) (hz : s.size ≤ 140737488351232) :
 Calls Tryz.prog 51 #[.string s] w fun e w' => e = .returned (.tuple #[.agg #[.bool false, .slice none 0 0, .slice none 0 0], .bool false]) ∧ Below w.heap.size w w' := by
 refine (q_Read (P := fun _ => True) s hz (fun _ _ => trivial)).mono ?_
 rintro e w' ⟨⟨q', r, h1, h2, h3⟩ | ⟨h1, h2⟩, hb⟩
 · rw [hq] at h1; cases h1
 · exact ⟨h2, hb⟩
end
section
variable {w : World} {s : ByteArray} {q : Rat}
theorem q_Is_1 (hq : numB s = some q) (hz : s.size ≤ 140737488351232) : Calls Tryz.prog 19 #[.string s] w fun e w' => e = .returned (.bool true) ∧ Below w.heap.size w w' := by
 have HQ := Lib.hid hq
 have HZ := Lib.hid hz
 clear hq hz
 have HF0 := Lib.hid (show Fr [] (w.heap.size) w from (Fr.nil (by simp)))
 go_enter Tryz.func19, Tryz.ntmps19
 go_wp2_with fail
 refine (q_Read_yes (P := fun _ => True) HQ.out HZ.out (fun _ _ => trivial)).mono ?_
 rintro e w1 ⟨r1, rfl, hr1, hb1⟩
 have HR1 := Lib.hid hr1; clear hr1
 have HF1 := Lib.hid (show Fr _ _ w1 from HF0.out.go blq)
 have hz1 : w.heap.size ≤ w1.heap.size := HF1.out.1
 go_wp2_with fail
 go_ret
 exact ⟨rfl, blq⟩
theorem q_Is_0 (hq : numB s = none) (hz : s.size ≤ 140737488351232) : Calls Tryz.prog 19 #[.string s] w fun e w' => e = .returned (.bool false) ∧ Below w.heap.size w w' := by
 have HQ := Lib.hid hq
 have HZ := Lib.hid hz
 clear hq hz
 have HF0 := Lib.hid (show Fr [] (w.heap.size) w from (Fr.nil (by simp)))
 go_enter Tryz.func19, Tryz.ntmps19
 go_wp2_with fail
 refine (q_Read_no HQ.out HZ.out).mono ?_
 rintro e w1 ⟨rfl, hb1⟩
 have HF1 := Lib.hid (show Fr _ _ w1 from HF0.out.go blq)
 have hz1 : w.heap.size ≤ w1.heap.size := HF1.out.1
 go_wp2_with fail
 go_ret
 exact ⟨rfl, blq⟩
theorem q_Is (s : ByteArray) (hz : s.size ≤ 140737488351232) : Calls Tryz.prog 19 #[.string s] w fun e w' => e = .returned (.bool (rIs s)) ∧ Below w.heap.size w w' := by
 cases h : numB s with
 | some q => rw [show rIs s = true by rw [rIs, h]; rfl]; exact q_Is_1 h hz
 | none => rw [show rIs s = false by rw [rIs, h]; rfl]; exact q_Is_0 h hz
theorem q_Parts_0 (hq : numB s = none) (hz : s.size ≤ 140737488351232) : Calls Tryz.prog 17 #[.string s] w fun e w' => e = .returned (.tuple #[.string (rParts s).1, .string (rParts s).2.1, .int .i64 (rParts s).2.2]) ∧ Below w.heap.size w w' := by
 have HE := Lib.hid (show rParts s = (nob, nob, 1) by rw [rParts, hq])
 have HQ := Lib.hid hq
 have HZ := Lib.hid hz
 clear hq hz
 have HF0 := Lib.hid (show Fr [] (w.heap.size) w from (Fr.nil (by simp)))
 go_enter Tryz.func17, Tryz.ntmps17
 go_wp2_with fail
 refine (q_Read_no HQ.out HZ.out).mono ?_
 rintro e w1 ⟨rfl, hb1⟩
 have HF1 := Lib.hid (show Fr _ _ w1 from HF0.out.go blq)
 have hz1 : w.heap.size ≤ w1.heap.size := HF1.out.1
 go_wp2_with fail
 go_ret3
 exact ⟨by rw [HE.out]; rfl, blq⟩
theorem q_Parts_1 (hq : numB s = some q) (hz : s.size ≤ 140737488351232) : Calls Tryz.prog 17 #[.string s] w fun e w' => e = .returned (.tuple #[.string (rParts s).1, .string (rParts s).2.1, .int .i64 (rParts s).2.2]) ∧ Below w.heap.size w w' := by
 have HE := Lib.hid (show rParts s = (bsOf (strW q.num), bsOf (dec q.den), 0) by rw [rParts, hq])
 have HQ := Lib.hid hq
 have HZ := Lib.hid hz
 clear hq hz
 have HF0 := Lib.hid (show Fr [] (w.heap.size) w from (Fr.nil (by simp)))
 go_enter Tryz.func17, Tryz.ntmps17
 go_wp2_with fail
 refine (q_Read_yes (P := fun _ => True) HQ.out HZ.out (fun _ _ => trivial)).mono ?_
 rintro e w1 ⟨r1, rfl, hr1, hb1⟩
 have HR1 := Lib.hid hr1; clear hr1
 have HF1 := Lib.hid (show Fr _ _ w1 from HF0.out.go blq)
 have hz1 : w.heap.size ≤ w1.heap.size := HF1.out.1
 have HFb1 := Lib.hid (HF1.out.new3 (.bool r1.b) (.slice r1.nA r1.nn r1.nc) (.slice r1.dA r1.dn r1.dc) 60)
 have HB1 := Lib.hid (HR1.out.alc (o := .cells #[.bool r1.b, .slice r1.nA r1.nn r1.nc, .slice r1.dA r1.dn r1.dc] 60))
 go_wp2_with fail
 refine OrdL.begin_ (S := fun W => W.cell? ⟨w1.heap.size, 0, none⟩ = some (.bool r1.b) ∧ W.cell? ⟨w1.heap.size, 1, none⟩ = some (.slice r1.nA r1.nn r1.nc) ∧ W.cell? ⟨w1.heap.size, 2, none⟩ = some (.slice r1.dA r1.dn r1.dc)) [5, 10, 11, 12] [] (by kernel_rfl) ?_ (fun hHeld => ?_)
 focus ((try dsimp only); exact (HFb1.out.go blq).all 0 3)
 refine OrdL.tk 0 (some 14) ?_
 refine nw ?_
 refine OrdL.tk 1 (some 15) ?_
 refine nw ?_
 refine OrdL.tk 2 (some 16) ?_
 refine nw ?_
 refine OrdL.tk 3 (some 17) ?_
 refine nw ?_
 refine OrdL.tk 7 (some 21) ?_
 refine nw ?_
 refine OrdL.tk 8 (some 22) ?_
 refine nw ?_
 refine OrdL.step (i := 4) rfl (by decide) (by kernel_rfl) (fun Kc hKc => ?_)
 refine nv ?_
 go_simp
 refine (d_natOf (P := fun _ => True) 1 (by decide) (by decide) (fun _ _ => trivial)).mono ?_
 rintro e w2 ⟨A2, n2, c2, rfl, h2, hb2⟩
 have H2 := Lib.hid h2; clear h2
 have HF2 := Lib.hid (show Fr _ _ w2 from HFb1.out.go blq)
 have hz2 : w1.heap.size + 1 ≤ w2.heap.size := HF2.out.1
 have hx2_0 : w1.heap.size < w2.heap.size := (by omega)
 obtain ⟨q2_0, q2_1, q2_2, -⟩ := HF2.out.alls 0 3
 go_wp2_with fail
 refine hKc.out _ _ ?_ (fun hHeld => ?_)
 focus ((try dsimp only); exact (HF2.out.go blq).all 0 3)
 clear hKc Kc
 refine nw ?_
 refine OrdL.takeW (i := 5) (d := (some 19)) (v := ?_) rfl rfl (by decide) (by kernel_rfl) (by kernel_rfl) (by kernel_rfl) (fun _ _ _ h => h) ⟨by rfl, ?_⟩ ?_
 rotate_left
 focus (intro w; go_simp; try with_reducible rfl)
 refine nw ?_
 refine OrdL.step (i := 6) rfl (by decide) (by kernel_rfl) (fun Kc hKc => ?_)
 refine nv ?_
 go_simp
 refine (q_Write (P := fun _ => True) (K := 75) (x := ⟨r1.b, r1.nA, r1.nn, r1.nc, A2, n2, c2⟩) (q := ((q.num : Int) : Rat)) ⟨(HB1.out.hn.below blq), ((H2.out.tight (by decide)).below blq), HB1.out.hb⟩ (by decide)).mono ?_
 rintro e w3 ⟨rfl, hb3⟩
 have HF3 := Lib.hid (show Fr _ _ w3 from HF2.out.go blq)
 have hz3 : w1.heap.size + 1 ≤ w3.heap.size := HF3.out.1
 have hx3_0 : w1.heap.size < w3.heap.size := (by omega)
 obtain ⟨q3_0, q3_1, q3_2, -⟩ := HF3.out.alls 0 3
 go_wp2_with fail
 refine hKc.out _ _ ?_ (fun hHeld => ?_)
 focus ((try dsimp only); exact (HF3.out.go blq).all 0 3)
 clear hKc Kc
 refine nw ?_
 refine OrdL.step (i := 9) rfl (by decide) (by kernel_rfl) (fun Kc hKc => ?_)
 refine nv ?_
 go_simp
 refine (d_textNat' (P := fun _ => True) (K := 75) (s := bsOf (dec q.den)) (HB1.out.hd.below blq) (by decide) (by rw [Int.toNat_natCast]; rfl)).mono ?_
 rintro e w4 ⟨rfl, hb4⟩
 have HF4 := Lib.hid (show Fr _ _ w4 from HF3.out.go blq)
 have hz4 : w1.heap.size + 1 ≤ w4.heap.size := HF4.out.1
 have hx4_0 : w1.heap.size < w4.heap.size := (by omega)
 obtain ⟨q4_0, q4_1, q4_2, -⟩ := HF4.out.alls 0 3
 go_wp2_with fail
 refine hKc.out _ _ ?_ (fun hHeld => ?_)
 focus ((try dsimp only); exact (HF4.out.go blq).all 0 3)
 clear hKc Kc
 refine nw ?_
 refine OrdL.takeW (i := 10) (d := (some 2)) (v := ?_) rfl rfl (by decide) (by kernel_rfl) (by kernel_rfl) (by kernel_rfl) (fun _ _ _ h => h) ⟨by rfl, ?_⟩ ?_
 rotate_left
 focus (intro w; go_simp; try with_reducible rfl)
 refine nw ?_
 refine OrdL.takeW (i := 11) (d := (some 3)) (v := ?_) rfl rfl (by decide) (by kernel_rfl) (by kernel_rfl) (by kernel_rfl) (fun _ _ _ h => h) ⟨by rfl, ?_⟩ ?_
 rotate_left
 focus (intro w; go_simp; try with_reducible rfl)
 refine nw ?_
 refine OrdL.takeW (i := 12) (d := (some 4)) (v := ?_) rfl rfl (by decide) (by kernel_rfl) (by kernel_rfl) (by kernel_rfl) (fun _ _ _ h => h) ⟨by rfl, ?_⟩ ?_
 rotate_left
 focus (intro w; go_simp; try with_reducible rfl)
 refine nw ?_
 refine OrdL.done (by kernel_rfl) ?_ _
 go_wp2_with fail
 go_ret3
 exact ⟨by rw [HE.out]; rfl, blq⟩
theorem q_Parts (s : ByteArray) (hz : s.size ≤ 140737488351232) : Calls Tryz.prog 17 #[.string s] w fun e w' => e = .returned (.tuple #[.string (rParts s).1, .string (rParts s).2.1, .int .i64 (rParts s).2.2]) ∧ Below w.heap.size w w' := by
 cases h : numB s with
 | some q => exact q_Parts_1 h hz
 | none => exact q_Parts_0 h hz
end
end Go.Proofs.YtpdghgfbfmaplaaGreatDoor.Rf
end
