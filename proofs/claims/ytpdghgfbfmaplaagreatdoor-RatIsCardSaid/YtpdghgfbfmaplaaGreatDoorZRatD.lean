/- Lemmas and contracts for the statement RowRatIs: merged by wip/assemble.py. -/
import Derived.Test.YtpdghgfbfmaplaaGreatDoorQY
import Derived.Test.YtpdghgfbfmaplaaGreatDoorZRatC
set_option maxRecDepth 100000
set_option maxHeartbeats 8000000
section
set_option linter.unusedVariables false
set_option linter.unusedSimpArgs false
namespace Go.Proofs.YtpdghgfbfmaplaaGreatDoor.Wh
open Go.RowKit Go.Proofs.YtpdghgfbfmaplaaGreatDoorW.PrintWords Go.Proofs.YtpdghgfbfmaplaaGreatDoor.Num Go.Proofs.YtpdghgfbfmaplaaGreatDoor.Dec
section
variable {w : World}
theorem c_FP {P : Nat → Prop} (a : ByteArray) (ha : a.size ≤ 140737488351232) (hP : ∀ k, w.heap.size ≤ k → P k) :
 Calls Tryz.prog 62 #[.string a] w fun e w' => ∃ x : FV, e = .returned (.tuple #[.agg #[.bool x.num.b, .slice x.num.A x.num.n x.num.c, .bool x.den.b, .slice x.den.A x.den.n x.den.c], .bool (numB a).isSome]) ∧ (∀ q, numB a = some q → IsF P 34 w' x q) ∧ Below w.heap.size w w' := by
 rw [sg_of a]
 refine (c_FParse a.data.toList (by rw [data_length]; exact ha) hP).mono ?_
 rintro e w' ⟨⟨q, x, e1, e2, rfl, hx⟩ | ⟨hno, x, rfl⟩, hb⟩
 · have h1 : numB a = some q := numB_some.2 ⟨bs_of e1, e2⟩; exact ⟨x, by rw [h1]; rfl, fun p hp => by rw [h1] at hp; cases hp; exact hx, hb⟩
 · have h1 : numB a = none := numOf_none.2 hno; exact ⟨x, by rw [h1]; rfl, (fun p hp => by rw [h1] at hp; cases hp), hb⟩
noncomputable def rIs (a : ByteArray) : Bool := (numB a).isSome
theorem c_rIs (a : ByteArray) (ha : a.size ≤ 140737488351232) :
 Calls Tryz.prog 18 #[.string a] w fun e w' => e = .returned (.bool (rIs a)) ∧ Below w.heap.size w w' := by
 have HA := Lib.hid ha
 clear ha
 go_enter Tryz.func18, Tryz.ntmps18
 go_wp2_with fail
 refine (c_FP (P := fun _ => True) a HA.out (fun _ _ => trivial)).mono ?_
 rintro e w1 ⟨x, rfl, hx, hb1⟩
 have HX := Lib.hid hx
 clear hx
 go_wp2_with fail
 go_ret
 exact ⟨rfl, blq⟩
theorem c_rParts (a : ByteArray) (ha : a.size ≤ 140737488351232) :
 Calls Tryz.prog 16 #[.string a] w fun e w' => e = .returned (.tuple #[.string (rParts a).1, .string (rParts a).2.1, .int .i64 (rParts a).2.2]) ∧ Below w.heap.size w w' := by
 have HA := Lib.hid ha
 clear ha
 go_enter Tryz.func16, Tryz.ntmps16
 go_wp2_with fail
 refine (c_FP (P := fun _ => True) a HA.out (fun _ _ => trivial)).mono ?_
 rintro e w1 ⟨x, rfl, hx, hb1⟩
 cases hq : numB a with
 | none =>
  have HE := Lib.hid (show rParts a = (nob, nob, 1) by rw [rParts, hq]); clear hx hq; simp only [Option.isSome_none]; go_wp2_with fail
  go_ret3
  exact ⟨by rw [HE.out]; rfl, blq⟩
 | some q =>
  have HE := Lib.hid (show rParts a = (bsOf (strW q.num), bsOf (dec q.den), 0) by rw [rParts, hq]); have HX := Lib.hid (hx q hq); have HFR := Lib.hid ((Fr.nil (Nat.le_refl w1.heap.size)).new4 (.bool x.num.b) (.slice x.num.A x.num.n x.num.c) (.bool x.den.b) (.slice x.den.A x.den.n x.den.c) 52); clear hx hq; simp only [Option.isSome_some]; go_wp2_with fail
  go_region_held3 (fun W => W.cell? ⟨w1.heap.size, 0, none⟩ = some (.bool x.num.b) ∧ W.cell? ⟨w1.heap.size, 1, none⟩ = some (.slice x.num.A x.num.n x.num.c) ∧ W.cell? ⟨w1.heap.size, 2, none⟩ = some (.bool x.den.b) ∧ W.cell? ⟨w1.heap.size, 3, none⟩ = some (.slice x.den.A x.den.n x.den.c))
   (exact (HFR.out.go blq).all 0 4)
   (first
    | (go_at_call 63; go_must (with_reducible refine (c_FNum x).mono ?_); rintro e w2 ⟨rfl, hb2⟩)
    | (go_at_call 65; go_must (with_reducible refine (c_FDen x).mono ?_); rintro e w4 ⟨rfl, hb4⟩)
    | (go_at_call_of 64 (Value.agg #[.bool x.num.b, .slice x.num.A x.num.n x.num.c]); go_must (with_reducible refine (c_String (HX.out.hn.below blq) (by have := HX.out.hn.len; omega)).mono ?_); rintro e w3 ⟨rfl, hb3⟩)
    | (go_at_call_of 64 (Value.agg #[.bool x.den.b, .slice x.den.A x.den.n x.den.c]); go_must (with_reducible refine (c_String (HX.out.hd.below blq) (by have := HX.out.hd.len; omega)).mono ?_); rintro e w5 ⟨rfl, hb5⟩))
  go_wp2_with fail
  go_ret3
  exact ⟨by rw [HE.out, strW_nat]; rfl, blq⟩
end
end Go.Proofs.YtpdghgfbfmaplaaGreatDoor.Wh
end
