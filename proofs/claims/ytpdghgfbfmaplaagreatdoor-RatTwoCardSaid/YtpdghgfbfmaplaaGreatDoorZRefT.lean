/- Lemmas for RowRatTwo. -/
import Derived.Test.YtpdghgfbfmaplaaGreatDoorZRefJ
import Derived.Test.YtpdghgfbfmaplaaGreatDoorZRatE
set_option maxRecDepth 100000
set_option maxHeartbeats 8000000
section
set_option linter.unusedVariables false
set_option linter.unusedSimpArgs false
namespace Go.Proofs.YtpdghgfbfmaplaaGreatDoor.Rf
open Go.RowKit Go.Proofs.YtpdghgfbfmaplaaGreatDoorW.PrintWords Go.Proofs.YtpdghgfbfmaplaaGreatDoor.Num Go.Proofs.YtpdghgfbfmaplaaGreatDoor.PRef Go.Proofs.YtpdghgfbfmaplaaGreatDoor.WhC Go.Proofs.YtpdghgfbfmaplaaGreatDoor.Dec Go.Proofs.YtpdghgfbfmaplaaGreatDoor.Wh
section
variable {w : World}
theorem q_Read_any (s : ByteArray) (hz : s.size ≤ 140737488351232) :
 Calls Tryz.prog 51 #[.string s] w fun e w' => ∃ (r : QV) (b : Bool), e = .returned (.tuple #[.agg #[.bool r.b, .slice r.nA r.nn r.nc, .slice r.dA r.dn r.dc], .bool b]) ∧ Below w.heap.size w w' := by
 cases h : numB s with
 | some q =>
  refine (q_Read_yes (P := fun _ => True) h hz (fun _ _ => trivial)).mono ?_; rintro e w' ⟨r, rfl, hr, hb⟩; exact ⟨r, true, rfl, hb⟩
 | none =>
  refine (q_Read_no h hz).mono ?_; rintro e w' ⟨rfl, hb⟩; exact ⟨⟨false, none, 0, 0, none, 0, 0⟩, false, rfl, hb⟩
theorem q_Add_n (a b : ByteArray) (ha : a.size ≤ 140737488351232) (hb : b.size ≤ 140737488351232) (hq : numB a = none) :
 Calls Tryz.prog 21 #[.string a, .string b] w fun e w' => e = .returned (.tuple #[.string (rAdd a b).1, .int .i64 (rAdd a b).2]) ∧ Below w.heap.size w w' := by
 have HE := Lib.hid (show rAdd a b = (nob, 1) by rw [rAdd, rBin, hq])
 have HQ := Lib.hid hq
 clear hq
 have HA := Lib.hid ha
 have HB := Lib.hid hb
 clear ha hb
 have HF0 := Lib.hid (show Fr [] (w.heap.size) w from (Fr.nil (by simp)))
 go_enter Tryz.func21, Tryz.ntmps21
 go_wp2_with fail
 refine (q_Read_no HQ.out HA.out).mono ?_
 rintro e w1 ⟨rfl, hb1⟩
 have HF1 := fgo w1 HF0
 have hz1 := HF1.out.1
 have HFb1 := Lib.hid (HF1.out.new3 (.bool false) (.slice none 0 0) (.slice none 0 0) 60)
 go_wp2_with fail
 refine (q_Read_any _ HB.out).mono ?_
 rintro e w2 ⟨r2, b2, rfl, hb2⟩
 have HF2 := fgo w2 HFb1
 have hz2 := HF2.out.1
 have hx2_0 : w1.heap.size < w2.heap.size := (by omega)
 obtain ⟨_, _, _, -⟩ := HF2.out.alls 0 3
 have HFb2 := Lib.hid (HF2.out.new3 (.bool r2.b) (.slice r2.nA r2.nn r2.nc) (.slice r2.dA r2.dn r2.dc) 60)
 go_wp2_with fail
 go_ret2
 exact ⟨by rw [HE.out]; rfl, blq⟩
theorem q_Add_m (a b : ByteArray) (ha : a.size ≤ 140737488351232) (hb : b.size ≤ 140737488351232) {q : Rat} (hq : numB a = some q) (hn : numB b = none) :
 Calls Tryz.prog 21 #[.string a, .string b] w fun e w' => e = .returned (.tuple #[.string (rAdd a b).1, .int .i64 (rAdd a b).2]) ∧ Below w.heap.size w w' := by
 have HE := Lib.hid (show rAdd a b = (nob, 1) by rw [rAdd, rBin, hq, hn])
 have HQ := Lib.hid hq
 have HN := Lib.hid hn
 clear hq hn
 have HA := Lib.hid ha
 have HB := Lib.hid hb
 clear ha hb
 have HF0 := Lib.hid (show Fr [] (w.heap.size) w from (Fr.nil (by simp)))
 go_enter Tryz.func21, Tryz.ntmps21
 go_wp2_with fail
 refine (q_Read_yes (P := fun _ => True) HQ.out HA.out (fun _ _ => trivial)).mono ?_
 rintro e w1 ⟨r1, rfl, hr1, hb1⟩
 have HR1 := Lib.hid hr1; clear hr1
 have HF1 := fgo w1 HF0
 have hz1 := HF1.out.1
 have HFb1 := Lib.hid (HF1.out.new3 (.bool r1.b) (.slice r1.nA r1.nn r1.nc) (.slice r1.dA r1.dn r1.dc) 60)
 go_wp2_with fail
 refine (q_Read_no HN.out HB.out).mono ?_
 rintro e w2 ⟨rfl, hb2⟩
 have HF2 := fgo w2 HFb1
 have hz2 := HF2.out.1
 have hx2_0 : w1.heap.size < w2.heap.size := (by omega)
 obtain ⟨_, _, _, -⟩ := HF2.out.alls 0 3
 have HFb2 := Lib.hid (HF2.out.new3 (.bool false) (.slice none 0 0) (.slice none 0 0) 60)
 go_wp2_with fail
 go_ret2
 exact ⟨by rw [HE.out]; rfl, blq⟩
theorem q_Add_y (a b : ByteArray) (ha : a.size ≤ 140737488351232) (hb : b.size ≤ 140737488351232) {q p : Rat} (hq : numB a = some q) (hp : numB b = some p) :
 Calls Tryz.prog 21 #[.string a, .string b] w fun e w' => e = .returned (.tuple #[.string (rAdd a b).1, .int .i64 (rAdd a b).2]) ∧ Below w.heap.size w w' := by
 have HE := Lib.hid (show rAdd a b = tellB (q + p) by rw [rAdd, rBin, hq, hp])
 have HQ := Lib.hid hq
 have HN := Lib.hid hp
 clear hq hp
 have HA := Lib.hid ha
 have HB := Lib.hid hb
 clear ha hb
 have HF0 := Lib.hid (show Fr [] (w.heap.size) w from (Fr.nil (by simp)))
 go_enter Tryz.func21, Tryz.ntmps21
 go_wp2_with fail
 refine (q_Read_yes (P := fun _ => True) HQ.out HA.out (fun _ _ => trivial)).mono ?_
 rintro e w1 ⟨r1, rfl, hr1, hb1⟩
 have HR1 := Lib.hid hr1; clear hr1
 have HF1 := fgo w1 HF0
 have hz1 := HF1.out.1
 have HFb1 := Lib.hid (HF1.out.new3 (.bool r1.b) (.slice r1.nA r1.nn r1.nc) (.slice r1.dA r1.dn r1.dc) 60)
 go_wp2_with fail
 refine (q_Read_yes (P := fun _ => True) HN.out HB.out (fun _ _ => trivial)).mono ?_
 rintro e w2 ⟨r2, rfl, hr2, hb2⟩
 have HR2 := Lib.hid hr2; clear hr2
 have HF2 := fgo w2 HFb1
 have hz2 := HF2.out.1
 have hx2_0 : w1.heap.size < w2.heap.size := (by omega)
 obtain ⟨_, _, _, -⟩ := HF2.out.alls 0 3
 have HFb2 := Lib.hid (HF2.out.new3 (.bool r2.b) (.slice r2.nA r2.nn r2.nc) (.slice r2.dA r2.dn r2.dc) 60)
 go_wp2_with fail
 refine (q_Plus (P := fun _ => True) (HR1.out.below blq) (HR2.out.below blq) (by decide) (fun _ _ => trivial)).mono ?_
 rintro e w3 ⟨r3, rfl, hr3, hb3⟩
 have HR3 := Lib.hid hr3; clear hr3
 have HF3 := fgo w3 HFb2
 have hz3 := HF3.out.1
 have hx3_0 : w1.heap.size < w3.heap.size := (by omega)
 have hx3_1 : w2.heap.size < w3.heap.size := (by omega)
 obtain ⟨_, _, _, _, _, _, -⟩ := HF3.out.alls 0 6
 go_wp2_with fail
 refine (q_Out (K := 75 + 75 + 1) (HR3.out.below blq) (by decide)).mono ?_
 rintro e w4 ⟨rfl, hb4⟩
 have HF4 := fgo w4 HF3
 have hz4 := HF4.out.1
 have hx4_0 : w1.heap.size < w4.heap.size := (by omega)
 have hx4_1 : w2.heap.size < w4.heap.size := (by omega)
 obtain ⟨_, _, _, _, _, _, -⟩ := HF4.out.alls 0 6
 go_wp2_with fail
 go_ret2
 exact ⟨by rw [HE.out]; rfl, blq⟩
theorem q_Add (a b : ByteArray) (ha : a.size ≤ 140737488351232) (hb : b.size ≤ 140737488351232)  :
 Calls Tryz.prog 21 #[.string a, .string b] w fun e w' => e = .returned (.tuple #[.string (rAdd a b).1, .int .i64 (rAdd a b).2]) ∧ Below w.heap.size w w' := by
 cases hq : numB a with
 | none => exact q_Add_n a b ha hb hq
 | some q =>
  cases hp : numB b with
  | none => exact q_Add_m a b ha hb hq hp
  | some p =>
   exact q_Add_y a b ha hb hq hp
theorem q_Sub_n (a b : ByteArray) (ha : a.size ≤ 140737488351232) (hb : b.size ≤ 140737488351232) (hq : numB a = none) :
 Calls Tryz.prog 23 #[.string a, .string b] w fun e w' => e = .returned (.tuple #[.string (rSub a b).1, .int .i64 (rSub a b).2]) ∧ Below w.heap.size w w' := by
 have HE := Lib.hid (show rSub a b = (nob, 1) by rw [rSub, rBin, hq])
 have HQ := Lib.hid hq
 clear hq
 have HA := Lib.hid ha
 have HB := Lib.hid hb
 clear ha hb
 have HF0 := Lib.hid (show Fr [] (w.heap.size) w from (Fr.nil (by simp)))
 go_enter Tryz.func23, Tryz.ntmps23
 go_wp2_with fail
 refine (q_Read_no HQ.out HA.out).mono ?_
 rintro e w1 ⟨rfl, hb1⟩
 have HF1 := fgo w1 HF0
 have hz1 := HF1.out.1
 have HFb1 := Lib.hid (HF1.out.new3 (.bool false) (.slice none 0 0) (.slice none 0 0) 60)
 go_wp2_with fail
 refine (q_Read_any _ HB.out).mono ?_
 rintro e w2 ⟨r2, b2, rfl, hb2⟩
 have HF2 := fgo w2 HFb1
 have hz2 := HF2.out.1
 have hx2_0 : w1.heap.size < w2.heap.size := (by omega)
 obtain ⟨_, _, _, -⟩ := HF2.out.alls 0 3
 have HFb2 := Lib.hid (HF2.out.new3 (.bool r2.b) (.slice r2.nA r2.nn r2.nc) (.slice r2.dA r2.dn r2.dc) 60)
 go_wp2_with fail
 go_ret2
 exact ⟨by rw [HE.out]; rfl, blq⟩
theorem q_Sub_m (a b : ByteArray) (ha : a.size ≤ 140737488351232) (hb : b.size ≤ 140737488351232) {q : Rat} (hq : numB a = some q) (hn : numB b = none) :
 Calls Tryz.prog 23 #[.string a, .string b] w fun e w' => e = .returned (.tuple #[.string (rSub a b).1, .int .i64 (rSub a b).2]) ∧ Below w.heap.size w w' := by
 have HE := Lib.hid (show rSub a b = (nob, 1) by rw [rSub, rBin, hq, hn])
 have HQ := Lib.hid hq
 have HN := Lib.hid hn
 clear hq hn
 have HA := Lib.hid ha
 have HB := Lib.hid hb
 clear ha hb
 have HF0 := Lib.hid (show Fr [] (w.heap.size) w from (Fr.nil (by simp)))
 go_enter Tryz.func23, Tryz.ntmps23
 go_wp2_with fail
 refine (q_Read_yes (P := fun _ => True) HQ.out HA.out (fun _ _ => trivial)).mono ?_
 rintro e w1 ⟨r1, rfl, hr1, hb1⟩
 have HR1 := Lib.hid hr1; clear hr1
 have HF1 := fgo w1 HF0
 have hz1 := HF1.out.1
 have HFb1 := Lib.hid (HF1.out.new3 (.bool r1.b) (.slice r1.nA r1.nn r1.nc) (.slice r1.dA r1.dn r1.dc) 60)
 go_wp2_with fail
 refine (q_Read_no HN.out HB.out).mono ?_
 rintro e w2 ⟨rfl, hb2⟩
 have HF2 := fgo w2 HFb1
 have hz2 := HF2.out.1
 have hx2_0 : w1.heap.size < w2.heap.size := (by omega)
 obtain ⟨_, _, _, -⟩ := HF2.out.alls 0 3
 have HFb2 := Lib.hid (HF2.out.new3 (.bool false) (.slice none 0 0) (.slice none 0 0) 60)
 go_wp2_with fail
 go_ret2
 exact ⟨by rw [HE.out]; rfl, blq⟩
theorem q_Sub_y (a b : ByteArray) (ha : a.size ≤ 140737488351232) (hb : b.size ≤ 140737488351232) {q p : Rat} (hq : numB a = some q) (hp : numB b = some p) :
 Calls Tryz.prog 23 #[.string a, .string b] w fun e w' => e = .returned (.tuple #[.string (rSub a b).1, .int .i64 (rSub a b).2]) ∧ Below w.heap.size w w' := by
 have HE := Lib.hid (show rSub a b = tellB (q - p) by rw [rSub, rBin, hq, hp])
 have HQ := Lib.hid hq
 have HN := Lib.hid hp
 clear hq hp
 have HA := Lib.hid ha
 have HB := Lib.hid hb
 clear ha hb
 have HF0 := Lib.hid (show Fr [] (w.heap.size) w from (Fr.nil (by simp)))
 go_enter Tryz.func23, Tryz.ntmps23
 go_wp2_with fail
 refine (q_Read_yes (P := fun _ => True) HQ.out HA.out (fun _ _ => trivial)).mono ?_
 rintro e w1 ⟨r1, rfl, hr1, hb1⟩
 have HR1 := Lib.hid hr1; clear hr1
 have HF1 := fgo w1 HF0
 have hz1 := HF1.out.1
 have HFb1 := Lib.hid (HF1.out.new3 (.bool r1.b) (.slice r1.nA r1.nn r1.nc) (.slice r1.dA r1.dn r1.dc) 60)
 go_wp2_with fail
 refine (q_Read_yes (P := fun _ => True) HN.out HB.out (fun _ _ => trivial)).mono ?_
 rintro e w2 ⟨r2, rfl, hr2, hb2⟩
 have HR2 := Lib.hid hr2; clear hr2
 have HF2 := fgo w2 HFb1
 have hz2 := HF2.out.1
 have hx2_0 : w1.heap.size < w2.heap.size := (by omega)
 obtain ⟨_, _, _, -⟩ := HF2.out.alls 0 3
 have HFb2 := Lib.hid (HF2.out.new3 (.bool r2.b) (.slice r2.nA r2.nn r2.nc) (.slice r2.dA r2.dn r2.dc) 60)
 go_wp2_with fail
 refine (q_Minus (P := fun _ => True) (HR1.out.below blq) (HR2.out.below blq) (by decide) (fun _ _ => trivial)).mono ?_
 rintro e w3 ⟨r3, rfl, hr3, hb3⟩
 have HR3 := Lib.hid hr3; clear hr3
 have HF3 := fgo w3 HFb2
 have hz3 := HF3.out.1
 have hx3_0 : w1.heap.size < w3.heap.size := (by omega)
 have hx3_1 : w2.heap.size < w3.heap.size := (by omega)
 obtain ⟨_, _, _, _, _, _, -⟩ := HF3.out.alls 0 6
 go_wp2_with fail
 refine (q_Out (K := 75 + 75 + 1) (HR3.out.below blq) (by decide)).mono ?_
 rintro e w4 ⟨rfl, hb4⟩
 have HF4 := fgo w4 HF3
 have hz4 := HF4.out.1
 have hx4_0 : w1.heap.size < w4.heap.size := (by omega)
 have hx4_1 : w2.heap.size < w4.heap.size := (by omega)
 obtain ⟨_, _, _, _, _, _, -⟩ := HF4.out.alls 0 6
 go_wp2_with fail
 go_ret2
 exact ⟨by rw [HE.out]; rfl, blq⟩
theorem q_Sub (a b : ByteArray) (ha : a.size ≤ 140737488351232) (hb : b.size ≤ 140737488351232)  :
 Calls Tryz.prog 23 #[.string a, .string b] w fun e w' => e = .returned (.tuple #[.string (rSub a b).1, .int .i64 (rSub a b).2]) ∧ Below w.heap.size w w' := by
 cases hq : numB a with
 | none => exact q_Sub_n a b ha hb hq
 | some q =>
  cases hp : numB b with
  | none => exact q_Sub_m a b ha hb hq hp
  | some p =>
   exact q_Sub_y a b ha hb hq hp
theorem q_Mul_n (a b : ByteArray) (ha : a.size ≤ 140737488351232) (hb : b.size ≤ 140737488351232) (hq : numB a = none) :
 Calls Tryz.prog 25 #[.string a, .string b] w fun e w' => e = .returned (.tuple #[.string (rMul a b).1, .int .i64 (rMul a b).2]) ∧ Below w.heap.size w w' := by
 have HE := Lib.hid (show rMul a b = (nob, 1) by rw [rMul, rBin, hq])
 have HQ := Lib.hid hq
 clear hq
 have HA := Lib.hid ha
 have HB := Lib.hid hb
 clear ha hb
 have HF0 := Lib.hid (show Fr [] (w.heap.size) w from (Fr.nil (by simp)))
 go_enter Tryz.func25, Tryz.ntmps25
 go_wp2_with fail
 refine (q_Read_no HQ.out HA.out).mono ?_
 rintro e w1 ⟨rfl, hb1⟩
 have HF1 := fgo w1 HF0
 have hz1 := HF1.out.1
 have HFb1 := Lib.hid (HF1.out.new3 (.bool false) (.slice none 0 0) (.slice none 0 0) 60)
 go_wp2_with fail
 refine (q_Read_any _ HB.out).mono ?_
 rintro e w2 ⟨r2, b2, rfl, hb2⟩
 have HF2 := fgo w2 HFb1
 have hz2 := HF2.out.1
 have hx2_0 : w1.heap.size < w2.heap.size := (by omega)
 obtain ⟨_, _, _, -⟩ := HF2.out.alls 0 3
 have HFb2 := Lib.hid (HF2.out.new3 (.bool r2.b) (.slice r2.nA r2.nn r2.nc) (.slice r2.dA r2.dn r2.dc) 60)
 go_wp2_with fail
 go_ret2
 exact ⟨by rw [HE.out]; rfl, blq⟩
theorem q_Mul_m (a b : ByteArray) (ha : a.size ≤ 140737488351232) (hb : b.size ≤ 140737488351232) {q : Rat} (hq : numB a = some q) (hn : numB b = none) :
 Calls Tryz.prog 25 #[.string a, .string b] w fun e w' => e = .returned (.tuple #[.string (rMul a b).1, .int .i64 (rMul a b).2]) ∧ Below w.heap.size w w' := by
 have HE := Lib.hid (show rMul a b = (nob, 1) by rw [rMul, rBin, hq, hn])
 have HQ := Lib.hid hq
 have HN := Lib.hid hn
 clear hq hn
 have HA := Lib.hid ha
 have HB := Lib.hid hb
 clear ha hb
 have HF0 := Lib.hid (show Fr [] (w.heap.size) w from (Fr.nil (by simp)))
 go_enter Tryz.func25, Tryz.ntmps25
 go_wp2_with fail
 refine (q_Read_yes (P := fun _ => True) HQ.out HA.out (fun _ _ => trivial)).mono ?_
 rintro e w1 ⟨r1, rfl, hr1, hb1⟩
 have HR1 := Lib.hid hr1; clear hr1
 have HF1 := fgo w1 HF0
 have hz1 := HF1.out.1
 have HFb1 := Lib.hid (HF1.out.new3 (.bool r1.b) (.slice r1.nA r1.nn r1.nc) (.slice r1.dA r1.dn r1.dc) 60)
 go_wp2_with fail
 refine (q_Read_no HN.out HB.out).mono ?_
 rintro e w2 ⟨rfl, hb2⟩
 have HF2 := fgo w2 HFb1
 have hz2 := HF2.out.1
 have hx2_0 : w1.heap.size < w2.heap.size := (by omega)
 obtain ⟨_, _, _, -⟩ := HF2.out.alls 0 3
 have HFb2 := Lib.hid (HF2.out.new3 (.bool false) (.slice none 0 0) (.slice none 0 0) 60)
 go_wp2_with fail
 go_ret2
 exact ⟨by rw [HE.out]; rfl, blq⟩
theorem q_Mul_y (a b : ByteArray) (ha : a.size ≤ 140737488351232) (hb : b.size ≤ 140737488351232) {q p : Rat} (hq : numB a = some q) (hp : numB b = some p) :
 Calls Tryz.prog 25 #[.string a, .string b] w fun e w' => e = .returned (.tuple #[.string (rMul a b).1, .int .i64 (rMul a b).2]) ∧ Below w.heap.size w w' := by
 have HE := Lib.hid (show rMul a b = tellB (q * p) by rw [rMul, rBin, hq, hp])
 have HQ := Lib.hid hq
 have HN := Lib.hid hp
 clear hq hp
 have HA := Lib.hid ha
 have HB := Lib.hid hb
 clear ha hb
 have HF0 := Lib.hid (show Fr [] (w.heap.size) w from (Fr.nil (by simp)))
 go_enter Tryz.func25, Tryz.ntmps25
 go_wp2_with fail
 refine (q_Read_yes (P := fun _ => True) HQ.out HA.out (fun _ _ => trivial)).mono ?_
 rintro e w1 ⟨r1, rfl, hr1, hb1⟩
 have HR1 := Lib.hid hr1; clear hr1
 have HF1 := fgo w1 HF0
 have hz1 := HF1.out.1
 have HFb1 := Lib.hid (HF1.out.new3 (.bool r1.b) (.slice r1.nA r1.nn r1.nc) (.slice r1.dA r1.dn r1.dc) 60)
 go_wp2_with fail
 refine (q_Read_yes (P := fun _ => True) HN.out HB.out (fun _ _ => trivial)).mono ?_
 rintro e w2 ⟨r2, rfl, hr2, hb2⟩
 have HR2 := Lib.hid hr2; clear hr2
 have HF2 := fgo w2 HFb1
 have hz2 := HF2.out.1
 have hx2_0 : w1.heap.size < w2.heap.size := (by omega)
 obtain ⟨_, _, _, -⟩ := HF2.out.alls 0 3
 have HFb2 := Lib.hid (HF2.out.new3 (.bool r2.b) (.slice r2.nA r2.nn r2.nc) (.slice r2.dA r2.dn r2.dc) 60)
 go_wp2_with fail
 refine (q_Times (P := fun _ => True) (HR1.out.below blq) (HR2.out.below blq) (by decide) (fun _ _ => trivial)).mono ?_
 rintro e w3 ⟨r3, rfl, hr3, hb3⟩
 have HR3 := Lib.hid hr3; clear hr3
 have HF3 := fgo w3 HFb2
 have hz3 := HF3.out.1
 have hx3_0 : w1.heap.size < w3.heap.size := (by omega)
 have hx3_1 : w2.heap.size < w3.heap.size := (by omega)
 obtain ⟨_, _, _, _, _, _, -⟩ := HF3.out.alls 0 6
 go_wp2_with fail
 refine (q_Out (K := 75 + 75) (HR3.out.below blq) (by decide)).mono ?_
 rintro e w4 ⟨rfl, hb4⟩
 have HF4 := fgo w4 HF3
 have hz4 := HF4.out.1
 have hx4_0 : w1.heap.size < w4.heap.size := (by omega)
 have hx4_1 : w2.heap.size < w4.heap.size := (by omega)
 obtain ⟨_, _, _, _, _, _, -⟩ := HF4.out.alls 0 6
 go_wp2_with fail
 go_ret2
 exact ⟨by rw [HE.out]; rfl, blq⟩
theorem q_Mul (a b : ByteArray) (ha : a.size ≤ 140737488351232) (hb : b.size ≤ 140737488351232)  :
 Calls Tryz.prog 25 #[.string a, .string b] w fun e w' => e = .returned (.tuple #[.string (rMul a b).1, .int .i64 (rMul a b).2]) ∧ Below w.heap.size w w' := by
 cases hq : numB a with
 | none => exact q_Mul_n a b ha hb hq
 | some q =>
  cases hp : numB b with
  | none => exact q_Mul_m a b ha hb hq hp
  | some p =>
   exact q_Mul_y a b ha hb hq hp
theorem q_Cmp_n (a b : ByteArray) (ha : a.size ≤ 140737488351232) (hb : b.size ≤ 140737488351232) (hq : numB a = none) :
 Calls Tryz.prog 29 #[.string a, .string b] w fun e w' => e = .returned (.tuple #[.int .i64 (rCmp a b).1, .int .i64 (rCmp a b).2]) ∧ Below w.heap.size w w' := by
 have HE := Lib.hid (show rCmp a b = (0, 1) by rw [rCmp, hq])
 have HQ := Lib.hid hq
 clear hq
 have HA := Lib.hid ha
 have HB := Lib.hid hb
 clear ha hb
 have HF0 := Lib.hid (show Fr [] (w.heap.size) w from (Fr.nil (by simp)))
 go_enter Tryz.func29, Tryz.ntmps29
 go_wp2_with fail
 refine (q_Read_no HQ.out HA.out).mono ?_
 rintro e w1 ⟨rfl, hb1⟩
 have HF1 := fgo w1 HF0
 have hz1 := HF1.out.1
 have HFb1 := Lib.hid (HF1.out.new3 (.bool false) (.slice none 0 0) (.slice none 0 0) 60)
 go_wp2_with fail
 refine (q_Read_any _ HB.out).mono ?_
 rintro e w2 ⟨r2, b2, rfl, hb2⟩
 have HF2 := fgo w2 HFb1
 have hz2 := HF2.out.1
 have hx2_0 : w1.heap.size < w2.heap.size := (by omega)
 obtain ⟨_, _, _, -⟩ := HF2.out.alls 0 3
 have HFb2 := Lib.hid (HF2.out.new3 (.bool r2.b) (.slice r2.nA r2.nn r2.nc) (.slice r2.dA r2.dn r2.dc) 60)
 go_wp2_with fail
 go_ret2
 exact ⟨by rw [HE.out]; rfl, blq⟩
theorem q_Cmp_m (a b : ByteArray) (ha : a.size ≤ 140737488351232) (hb : b.size ≤ 140737488351232) {q : Rat} (hq : numB a = some q) (hn : numB b = none) :
 Calls Tryz.prog 29 #[.string a, .string b] w fun e w' => e = .returned (.tuple #[.int .i64 (rCmp a b).1, .int .i64 (rCmp a b).2]) ∧ Below w.heap.size w w' := by
 have HE := Lib.hid (show rCmp a b = (0, 1) by rw [rCmp, hq, hn])
 have HQ := Lib.hid hq
 have HN := Lib.hid hn
 clear hq hn
 have HA := Lib.hid ha
 have HB := Lib.hid hb
 clear ha hb
 have HF0 := Lib.hid (show Fr [] (w.heap.size) w from (Fr.nil (by simp)))
 go_enter Tryz.func29, Tryz.ntmps29
 go_wp2_with fail
 refine (q_Read_yes (P := fun _ => True) HQ.out HA.out (fun _ _ => trivial)).mono ?_
 rintro e w1 ⟨r1, rfl, hr1, hb1⟩
 have HR1 := Lib.hid hr1; clear hr1
 have HF1 := fgo w1 HF0
 have hz1 := HF1.out.1
 have HFb1 := Lib.hid (HF1.out.new3 (.bool r1.b) (.slice r1.nA r1.nn r1.nc) (.slice r1.dA r1.dn r1.dc) 60)
 go_wp2_with fail
 refine (q_Read_no HN.out HB.out).mono ?_
 rintro e w2 ⟨rfl, hb2⟩
 have HF2 := fgo w2 HFb1
 have hz2 := HF2.out.1
 have hx2_0 : w1.heap.size < w2.heap.size := (by omega)
 obtain ⟨_, _, _, -⟩ := HF2.out.alls 0 3
 have HFb2 := Lib.hid (HF2.out.new3 (.bool false) (.slice none 0 0) (.slice none 0 0) 60)
 go_wp2_with fail
 go_ret2
 exact ⟨by rw [HE.out]; rfl, blq⟩
theorem q_Cmp_y (a b : ByteArray) (ha : a.size ≤ 140737488351232) (hb : b.size ≤ 140737488351232) {q p : Rat} (hq : numB a = some q) (hp : numB b = some p) :
 Calls Tryz.prog 29 #[.string a, .string b] w fun e w' => e = .returned (.tuple #[.int .i64 (rCmp a b).1, .int .i64 (rCmp a b).2]) ∧ Below w.heap.size w w' := by
 have HE := Lib.hid (show rCmp a b = ((q - p).num.sign, 0) by rw [rCmp, hq, hp])
 have HQ := Lib.hid hq
 have HN := Lib.hid hp
 clear hq hp
 have HA := Lib.hid ha
 have HB := Lib.hid hb
 clear ha hb
 have HF0 := Lib.hid (show Fr [] (w.heap.size) w from (Fr.nil (by simp)))
 go_enter Tryz.func29, Tryz.ntmps29
 go_wp2_with fail
 refine (q_Read_yes (P := fun _ => True) HQ.out HA.out (fun _ _ => trivial)).mono ?_
 rintro e w1 ⟨r1, rfl, hr1, hb1⟩
 have HR1 := Lib.hid hr1; clear hr1
 have HF1 := fgo w1 HF0
 have hz1 := HF1.out.1
 have HFb1 := Lib.hid (HF1.out.new3 (.bool r1.b) (.slice r1.nA r1.nn r1.nc) (.slice r1.dA r1.dn r1.dc) 60)
 go_wp2_with fail
 refine (q_Read_yes (P := fun _ => True) HN.out HB.out (fun _ _ => trivial)).mono ?_
 rintro e w2 ⟨r2, rfl, hr2, hb2⟩
 have HR2 := Lib.hid hr2; clear hr2
 have HF2 := fgo w2 HFb1
 have hz2 := HF2.out.1
 have hx2_0 : w1.heap.size < w2.heap.size := (by omega)
 obtain ⟨_, _, _, -⟩ := HF2.out.alls 0 3
 have HFb2 := Lib.hid (HF2.out.new3 (.bool r2.b) (.slice r2.nA r2.nn r2.nc) (.slice r2.dA r2.dn r2.dc) 60)
 go_wp2_with fail
 refine (q_Against (P := fun _ => True) (HR1.out.below blq) (HR2.out.below blq) (by decide) (fun _ _ => trivial) rfl).mono ?_
 rintro e w3 ⟨rfl, hb3⟩
 have HF3 := fgo w3 HFb2
 have hz3 := HF3.out.1
 have hx3_0 : w1.heap.size < w3.heap.size := (by omega)
 have hx3_1 : w2.heap.size < w3.heap.size := (by omega)
 obtain ⟨_, _, _, _, _, _, -⟩ := HF3.out.alls 0 6
 go_wp2_with fail
 go_ret2
 exact ⟨by rw [HE.out]; rfl, blq⟩
theorem q_Cmp (a b : ByteArray) (ha : a.size ≤ 140737488351232) (hb : b.size ≤ 140737488351232)  :
 Calls Tryz.prog 29 #[.string a, .string b] w fun e w' => e = .returned (.tuple #[.int .i64 (rCmp a b).1, .int .i64 (rCmp a b).2]) ∧ Below w.heap.size w w' := by
 cases hq : numB a with
 | none => exact q_Cmp_n a b ha hb hq
 | some q =>
  cases hp : numB b with
  | none => exact q_Cmp_m a b ha hb hq hp
  | some p =>
   exact q_Cmp_y a b ha hb hq hp
theorem numB_z : numB ⟨#[48]⟩ = some 0 := numB_some.2 ⟨by rw [strF_zero], by decide +kernel⟩
theorem numB_zero {b : ByteArray} {p : Rat} (hp : numB b = some p) : b = ⟨#[48]⟩ ↔ p = 0 := by
 constructor
 · rintro rfl; rw [numB_z] at hp; exact (Option.some.inj hp).symm
 · rintro rfl; rw [(numB_some.1 hp).1, strF_zero]
theorem q_Div_n (a b : ByteArray) (ha : a.size ≤ 140737488351232) (hb : b.size ≤ 140737488351232) (hq : numB a = none) :
 Calls Tryz.prog 27 #[.string a, .string b] w fun e w' => e = .returned (.tuple #[.string (rDiv a b).1, .int .i64 (rDiv a b).2]) ∧ Below w.heap.size w w' := by
 have HE := Lib.hid (show rDiv a b = (nob, 1) by rw [rDiv, if_neg (by rw [hq]; simp), rBin, hq])
 have HQ := Lib.hid hq
 clear hq
 have HA := Lib.hid ha
 have HB := Lib.hid hb
 clear ha hb
 have HF0 := Lib.hid (show Fr [] (w.heap.size) w from (Fr.nil (by simp)))
 go_enter Tryz.func27, Tryz.ntmps27
 go_wp2_with fail
 refine (q_Read_no HQ.out HA.out).mono ?_
 rintro e w1 ⟨rfl, hb1⟩
 have HF1 := fgo w1 HF0
 have hz1 := HF1.out.1
 have HFb1 := Lib.hid (HF1.out.new3 (.bool false) (.slice none 0 0) (.slice none 0 0) 60)
 go_wp2_with fail
 refine (q_Read_any _ HB.out).mono ?_
 rintro e w2 ⟨r2, b2, rfl, hb2⟩
 have HF2 := fgo w2 HFb1
 have hz2 := HF2.out.1
 have hx2_0 : w1.heap.size < w2.heap.size := (by omega)
 obtain ⟨_, _, _, -⟩ := HF2.out.alls 0 3
 have HFb2 := Lib.hid (HF2.out.new3 (.bool r2.b) (.slice r2.nA r2.nn r2.nc) (.slice r2.dA r2.dn r2.dc) 60)
 go_wp2_with fail
 go_ret2
 exact ⟨by rw [HE.out]; rfl, blq⟩
theorem q_Div_m (a b : ByteArray) (ha : a.size ≤ 140737488351232) (hb : b.size ≤ 140737488351232) {q : Rat} (hq : numB a = some q) (hn : numB b = none) :
 Calls Tryz.prog 27 #[.string a, .string b] w fun e w' => e = .returned (.tuple #[.string (rDiv a b).1, .int .i64 (rDiv a b).2]) ∧ Below w.heap.size w w' := by
 have HE := Lib.hid (show rDiv a b = (nob, 1) by rw [rDiv, if_neg (by rintro ⟨h, -⟩; subst h; rw [numB_z] at hn; cases hn), rBin, hq, hn])
 have HQ := Lib.hid hq
 have HN := Lib.hid hn
 clear hq hn
 have HA := Lib.hid ha
 have HB := Lib.hid hb
 clear ha hb
 have HF0 := Lib.hid (show Fr [] (w.heap.size) w from (Fr.nil (by simp)))
 go_enter Tryz.func27, Tryz.ntmps27
 go_wp2_with fail
 refine (q_Read_yes (P := fun _ => True) HQ.out HA.out (fun _ _ => trivial)).mono ?_
 rintro e w1 ⟨r1, rfl, hr1, hb1⟩
 have HR1 := Lib.hid hr1; clear hr1
 have HF1 := fgo w1 HF0
 have hz1 := HF1.out.1
 have HFb1 := Lib.hid (HF1.out.new3 (.bool r1.b) (.slice r1.nA r1.nn r1.nc) (.slice r1.dA r1.dn r1.dc) 60)
 go_wp2_with fail
 refine (q_Read_no HN.out HB.out).mono ?_
 rintro e w2 ⟨rfl, hb2⟩
 have HF2 := fgo w2 HFb1
 have hz2 := HF2.out.1
 have hx2_0 : w1.heap.size < w2.heap.size := (by omega)
 obtain ⟨_, _, _, -⟩ := HF2.out.alls 0 3
 have HFb2 := Lib.hid (HF2.out.new3 (.bool false) (.slice none 0 0) (.slice none 0 0) 60)
 go_wp2_with fail
 go_ret2
 exact ⟨by rw [HE.out]; rfl, blq⟩
theorem q_Div_z (a b : ByteArray) (ha : a.size ≤ 140737488351232) (hb : b.size ≤ 140737488351232) {q p : Rat} (hq : numB a = some q) (hp : numB b = some p) (h0 : p = 0) :
 Calls Tryz.prog 27 #[.string a, .string b] w fun e w' => e = .returned (.tuple #[.string (rDiv a b).1, .int .i64 (rDiv a b).2]) ∧ Below w.heap.size w w' := by
 have HE := Lib.hid (show rDiv a b = (nob, 12) by rw [rDiv, if_pos ⟨(numB_zero hp).2 h0, by rw [hq]; rfl⟩])
 have HZ := Lib.hid (show decide (p = 0) = true by simpa using h0)
 have H0 := Lib.hid h0
 have HQ := Lib.hid hq
 have HN := Lib.hid hp
 clear hq hp h0
 have HA := Lib.hid ha
 have HB := Lib.hid hb
 clear ha hb
 have HF0 := Lib.hid (show Fr [] (w.heap.size) w from (Fr.nil (by simp)))
 go_enter Tryz.func27, Tryz.ntmps27
 go_wp2_with fail
 refine (q_Read_yes (P := fun _ => True) HQ.out HA.out (fun _ _ => trivial)).mono ?_
 rintro e w1 ⟨r1, rfl, hr1, hb1⟩
 have HR1 := Lib.hid hr1; clear hr1
 have HF1 := fgo w1 HF0
 have hz1 := HF1.out.1
 have HFb1 := Lib.hid (HF1.out.new3 (.bool r1.b) (.slice r1.nA r1.nn r1.nc) (.slice r1.dA r1.dn r1.dc) 60)
 go_wp2_with fail
 refine (q_Read_yes (P := fun _ => True) HN.out HB.out (fun _ _ => trivial)).mono ?_
 rintro e w2 ⟨r2, rfl, hr2, hb2⟩
 have HR2 := Lib.hid hr2; clear hr2
 have HF2 := fgo w2 HFb1
 have hz2 := HF2.out.1
 have hx2_0 : w1.heap.size < w2.heap.size := (by omega)
 obtain ⟨_, _, _, -⟩ := HF2.out.alls 0 3
 have HFb2 := Lib.hid (HF2.out.new3 (.bool r2.b) (.slice r2.nA r2.nn r2.nc) (.slice r2.dA r2.dn r2.dc) 60)
 go_wp2_with fail
 refine (q_Zero (K := 75) (HR2.out.below blq) (by decide) HZ.out).mono ?_
 rintro e w3 ⟨rfl, hb3⟩
 have HF3 := fgo w3 HFb2
 have hz3 := HF3.out.1
 have hx3_0 : w1.heap.size < w3.heap.size := (by omega)
 have hx3_1 : w2.heap.size < w3.heap.size := (by omega)
 obtain ⟨_, _, _, _, _, _, -⟩ := HF3.out.alls 0 6
 go_wp2_with fail
 go_ret2
 exact ⟨by rw [HE.out]; rfl, blq⟩
theorem q_Div_y (a b : ByteArray) (ha : a.size ≤ 140737488351232) (hb : b.size ≤ 140737488351232) {q p : Rat} (hq : numB a = some q) (hp : numB b = some p) (h0 : ¬ p = 0) :
 Calls Tryz.prog 27 #[.string a, .string b] w fun e w' => e = .returned (.tuple #[.string (rDiv a b).1, .int .i64 (rDiv a b).2]) ∧ Below w.heap.size w w' := by
 have HE := Lib.hid (show rDiv a b = tellB (q / p) by rw [rDiv, if_neg (fun h => h0 ((numB_zero hp).1 h.1)), rBin, hq, hp])
 have HZ := Lib.hid (show decide (p = 0) = false by simpa using h0)
 have H0 := Lib.hid h0
 have HQ := Lib.hid hq
 have HN := Lib.hid hp
 clear hq hp h0
 have HA := Lib.hid ha
 have HB := Lib.hid hb
 clear ha hb
 have HF0 := Lib.hid (show Fr [] (w.heap.size) w from (Fr.nil (by simp)))
 go_enter Tryz.func27, Tryz.ntmps27
 go_wp2_with fail
 refine (q_Read_yes (P := fun _ => True) HQ.out HA.out (fun _ _ => trivial)).mono ?_
 rintro e w1 ⟨r1, rfl, hr1, hb1⟩
 have HR1 := Lib.hid hr1; clear hr1
 have HF1 := fgo w1 HF0
 have hz1 := HF1.out.1
 have HFb1 := Lib.hid (HF1.out.new3 (.bool r1.b) (.slice r1.nA r1.nn r1.nc) (.slice r1.dA r1.dn r1.dc) 60)
 go_wp2_with fail
 refine (q_Read_yes (P := fun _ => True) HN.out HB.out (fun _ _ => trivial)).mono ?_
 rintro e w2 ⟨r2, rfl, hr2, hb2⟩
 have HR2 := Lib.hid hr2; clear hr2
 have HF2 := fgo w2 HFb1
 have hz2 := HF2.out.1
 have hx2_0 : w1.heap.size < w2.heap.size := (by omega)
 obtain ⟨_, _, _, -⟩ := HF2.out.alls 0 3
 have HFb2 := Lib.hid (HF2.out.new3 (.bool r2.b) (.slice r2.nA r2.nn r2.nc) (.slice r2.dA r2.dn r2.dc) 60)
 go_wp2_with fail
 refine (q_Zero (K := 75) (HR2.out.below blq) (by decide) HZ.out).mono ?_
 rintro e w3 ⟨rfl, hb3⟩
 have HF3 := fgo w3 HFb2
 have hz3 := HF3.out.1
 have hx3_0 : w1.heap.size < w3.heap.size := (by omega)
 have hx3_1 : w2.heap.size < w3.heap.size := (by omega)
 obtain ⟨_, _, _, _, _, _, -⟩ := HF3.out.alls 0 6
 go_wp2_with fail
 refine (q_Over (P := fun _ => True) (HR1.out.below blq) (HR2.out.below blq) (by decide) (fun _ _ => trivial) H0.out).mono ?_
 rintro e w4 ⟨r3, rfl, hr3, hb4⟩
 have HR3 := Lib.hid hr3; clear hr3
 have HF4 := fgo w4 HF3
 have hz4 := HF4.out.1
 have hx4_0 : w1.heap.size < w4.heap.size := (by omega)
 have hx4_1 : w2.heap.size < w4.heap.size := (by omega)
 obtain ⟨_, _, _, _, _, _, -⟩ := HF4.out.alls 0 6
 go_wp2_with fail
 refine (q_Out (K := 75 + 75) (HR3.out.below blq) (by decide)).mono ?_
 rintro e w5 ⟨rfl, hb5⟩
 have HF5 := fgo w5 HF4
 have hz5 := HF5.out.1
 have hx5_0 : w1.heap.size < w5.heap.size := (by omega)
 have hx5_1 : w2.heap.size < w5.heap.size := (by omega)
 obtain ⟨_, _, _, _, _, _, -⟩ := HF5.out.alls 0 6
 go_wp2_with fail
 go_ret2
 exact ⟨by rw [HE.out]; rfl, blq⟩
theorem q_Div (a b : ByteArray) (ha : a.size ≤ 140737488351232) (hb : b.size ≤ 140737488351232)  :
 Calls Tryz.prog 27 #[.string a, .string b] w fun e w' => e = .returned (.tuple #[.string (rDiv a b).1, .int .i64 (rDiv a b).2]) ∧ Below w.heap.size w w' := by
 cases hq : numB a with
 | none => exact q_Div_n a b ha hb hq
 | some q =>
  cases hp : numB b with
  | none => exact q_Div_m a b ha hb hq hp
  | some p =>
   by_cases h0 : p = 0
   · exact q_Div_z a b ha hb hq hp h0
   · exact q_Div_y a b ha hb hq hp h0
end
end Go.Proofs.YtpdghgfbfmaplaaGreatDoor.Rf
end
