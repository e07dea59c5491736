/- Lemmas and contracts for the statement RowRatIs: merged by wip/assemble.py. -/
import Derived.Test.YtpdghgfbfmaplaaGreatDoorQY
import Derived.Test.YtpdghgfbfmaplaaGreatDoorZRefE
import Derived.Test.YtpdghgfbfmaplaaGreatDoorZOrdL
import Derived.Test.YtpdghgfbfmaplaaGreatDoorQL
set_option maxRecDepth 100000
set_option maxHeartbeats 8000000
section
set_option linter.unusedVariables false
set_option linter.unusedSimpArgs false
namespace Go.Proofs.YtpdghgfbfmaplaaGreatDoor.Rf
open Go.RowKit Go.Proofs.YtpdghgfbfmaplaaGreatDoorW.PrintWords Go.Proofs.YtpdghgfbfmaplaaGreatDoor.Num Go.Proofs.YtpdghgfbfmaplaaGreatDoor.PRef Go.Proofs.YtpdghgfbfmaplaaGreatDoor.WhC Go.Proofs.YtpdghgfbfmaplaaGreatDoor.Dec Go.Proofs.YtpdghgfbfmaplaaGreatDoor.Wh
section
variable {P : Nat → Prop} {K K' : Nat} {w : World} {A A' : Option Addr} {n n' c c' : Nat} {z u : Int}
theorem dec_len4 {m K : Nat} (h : m < 10000 ^ K) : (dec m).length ≤ 4 * K + 1 := by
 by_cases h0 : m = 0
 · subst h0; rw [dec_zero]; simp
 · obtain ⟨k, e1, e2, _⟩ := dec_len_ex m (by omega); have h4 : (10000 : Nat) ^ K = 10 ^ (4 * K) := by rw [Nat.pow_mul]
   have h5 := (Nat.pow_lt_pow_iff_right (by decide : 1 < 10)).1 (show 10 ^ k < 10 ^ (4 * K) by omega); omega
theorem d_textNat' {s : ByteArray} (hx : IsD P K w A n c z) (hK : K ≤ 17000000000000) (hs : (⟨(dec z.toNat).toArray⟩ : ByteArray) = s) :
 Calls Tryz.prog 68 #[.slice A n c] w fun e w' => e = .returned (.string s) ∧ Below w.heap.size w w' := hs ▸ d_textNat hx hK
theorem text_size {m K : Nat} {s : ByteArray} (h : m < 10000 ^ K) (hs : (⟨(dec m).toArray⟩ : ByteArray) = s) : s.size ≤ 4 * K + 1 := by
 rw [← hs]
 have := dec_len4 h
 show (dec m).toArray.size ≤ _
 simpa using this
theorem gp_true {P : Nat → Prop} {s n k : Nat} (h : Gp P s n k) : Gp (fun _ => True) s n k := ⟨trivial, h.2⟩
end
section
variable {P : Nat → Prop} {K K' : Nat} {w : World}
theorem q_Whole_1 {x : QV} {q : Rat} (hx : IsQ P K w x q) (hK : K ≤ 1000000000) (ha : q.den = 1) :
 Calls Tryz.prog 88 #[.agg #[.bool x.b, .slice x.nA x.nn x.nc, .slice x.dA x.dn x.dc]] w fun e w' => e = .returned (.bool true) ∧ Below w.heap.size w w' := by
 have HX := Lib.hid (hx.gap 1)
 have HK := Lib.hid hK
 clear hK
 have HS := Lib.hid (show ((q.den : Int) - 1).sign = 0 by rw [ha]; rfl)
 clear hx ha
 have HF0 := Lib.hid (show Fr [(w.heap.size, 0, (.bool x.b)), (w.heap.size, 1, (.slice x.nA x.nn x.nc)), (w.heap.size, 2, (.slice x.dA x.dn x.dc))] (w.heap.size + 1) (w.alloc (.cells #[.bool x.b, .slice x.nA x.nn x.nc, .slice x.dA x.dn x.dc] 60)) from frq)
 go_enter Tryz.func88, Tryz.ntmps88
 go_wp2_with fail
 go_region_held3 (fun W => W.cell? ⟨w.heap.size, 0, none⟩ = some (.bool x.b) ∧ W.cell? ⟨w.heap.size, 1, none⟩ = some (.slice x.nA x.nn x.nc) ∧ W.cell? ⟨w.heap.size, 2, none⟩ = some (.slice x.dA x.dn x.dc))
  (exact ⟨(by (repeat (with_reducible refine cell_far ?_ arq)); exact (HF0.out.go blq).get 0 rfl), (by (repeat (with_reducible refine cell_far ?_ arq)); exact (HF0.out.go blq).get 1 rfl), (by (repeat (with_reducible refine cell_far ?_ arq)); exact (HF0.out.go blq).get 2 rfl)⟩)
  (first
   | (go_at_call 66; go_must (with_reducible refine (d_natOf (P := Gp (fun _ => True) w.heap.size 1) 1 (by decide) (by decide) (gap_fresh (fun _ _ => trivial) blq arq)).mono ?_); rintro e w1 ⟨A1, n1, c1, rfl, h1, hb1⟩; have H1 := Lib.hid h1; clear h1; have HF1 := Lib.hid (show Fr _ _ w1 from HF0.out.go blq); have hz1 : w.heap.size + 1 ≤ w1.heap.size := HF1.out.1; have hl1_0 := lt1 hz1)
   | (go_at_call 96; go_must (with_reducible refine (d_cmpNat' (r := 0) (P := Gp (fun _ => True) w.heap.size 1) ((HX.out.hd.mono (fun k hk => gp_true hk)).below blq) (H1.out.below blq) (by have := HK.out; omega) (by decide) HS.out).mono ?_); rintro e w2 ⟨rfl, hb2⟩; have HF2 := Lib.hid (show Fr _ _ w2 from HF0.out.go blq); have hz2 : w.heap.size + 1 ≤ w2.heap.size := HF2.out.1; have hl2_0 := lt1 hz2))
 go_wp2_with fail
 go_ret
 exact ⟨rfl, blq⟩
theorem q_Whole_0 {x : QV} {q : Rat} (hx : IsQ P K w x q) (hK : K ≤ 1000000000) (ha : ¬ q.den = 1) :
 Calls Tryz.prog 88 #[.agg #[.bool x.b, .slice x.nA x.nn x.nc, .slice x.dA x.dn x.dc]] w fun e w' => e = .returned (.bool false) ∧ Below w.heap.size w w' := by
 have HX := Lib.hid (hx.gap 1)
 have HK := Lib.hid hK
 clear hK
 have HS := Lib.hid (show ((q.den : Int) - 1).sign = 1 by have := den_pos q; exact Int.sign_eq_one_of_pos (by omega))
 clear hx ha
 have HF0 := Lib.hid (show Fr [(w.heap.size, 0, (.bool x.b)), (w.heap.size, 1, (.slice x.nA x.nn x.nc)), (w.heap.size, 2, (.slice x.dA x.dn x.dc))] (w.heap.size + 1) (w.alloc (.cells #[.bool x.b, .slice x.nA x.nn x.nc, .slice x.dA x.dn x.dc] 60)) from frq)
 go_enter Tryz.func88, Tryz.ntmps88
 go_wp2_with fail
 go_region_held3 (fun W => W.cell? ⟨w.heap.size, 0, none⟩ = some (.bool x.b) ∧ W.cell? ⟨w.heap.size, 1, none⟩ = some (.slice x.nA x.nn x.nc) ∧ W.cell? ⟨w.heap.size, 2, none⟩ = some (.slice x.dA x.dn x.dc))
  (exact ⟨(by (repeat (with_reducible refine cell_far ?_ arq)); exact (HF0.out.go blq).get 0 rfl), (by (repeat (with_reducible refine cell_far ?_ arq)); exact (HF0.out.go blq).get 1 rfl), (by (repeat (with_reducible refine cell_far ?_ arq)); exact (HF0.out.go blq).get 2 rfl)⟩)
  (first
   | (go_at_call 66; go_must (with_reducible refine (d_natOf (P := Gp (fun _ => True) w.heap.size 1) 1 (by decide) (by decide) (gap_fresh (fun _ _ => trivial) blq arq)).mono ?_); rintro e w1 ⟨A1, n1, c1, rfl, h1, hb1⟩; have H1 := Lib.hid h1; clear h1; have HF1 := Lib.hid (show Fr _ _ w1 from HF0.out.go blq); have hz1 : w.heap.size + 1 ≤ w1.heap.size := HF1.out.1; have hl1_0 := lt1 hz1)
   | (go_at_call 96; go_must (with_reducible refine (d_cmpNat' (r := 1) (P := Gp (fun _ => True) w.heap.size 1) ((HX.out.hd.mono (fun k hk => gp_true hk)).below blq) (H1.out.below blq) (by have := HK.out; omega) (by decide) HS.out).mono ?_); rintro e w2 ⟨rfl, hb2⟩; have HF2 := Lib.hid (show Fr _ _ w2 from HF0.out.go blq); have hz2 : w.heap.size + 1 ≤ w2.heap.size := HF2.out.1; have hl2_0 := lt1 hz2))
 go_wp2_with fail
 go_ret
 exact ⟨rfl, blq⟩
theorem q_Write_11 {x : QV} {q : Rat} (hx : IsQ P K w x q) (hK : K ≤ 1000000000) (hn : q.num < 0) (ha : q.den = 1) :
 Calls Tryz.prog 67 #[.agg #[.bool x.b, .slice x.nA x.nn x.nc, .slice x.dA x.dn x.dc]] w fun e w' => e = .returned (.string (bsOf (strF q))) ∧ Below w.heap.size w w' := by
 obtain ⟨xb, nA, nn, nc, dA, dn, dc⟩ := x
 obtain rfl : xb = true := hx.hb.trans (decide_eq_true hn)
 have HX := Lib.hid (hx.gap 1)
 have HK := Lib.hid hK
 clear hK
 have hK := HK.out
 obtain ⟨s1, hs1⟩ : ∃ s : ByteArray, (⟨(dec ((q.num.natAbs : Int)).toNat).toArray⟩ : ByteArray) = s := ⟨_, rfl⟩
 obtain ⟨s2, hs2⟩ : ∃ s : ByteArray, (⟨(dec ((q.den : Int)).toNat).toArray⟩ : ByteArray) = s := ⟨_, rfl⟩
 have z1 := text_size (K := K) (by have := hx.bdn; simpa using this) hs1
 have z2 := text_size (K := K) (by have := hx.bdd; simpa using this) hs2
 have y1 : 1 + s1.size < 9223372036854775807 := by omega
 have y2 : ¬ 9223372036854775807 < 1 + s1.size := by omega
 have y3 : ¬ 9223372036854775807 < 1 + s1.size + 1 := by omega
 have y4 : ¬ 9223372036854775807 < 1 + s1.size + 1 + s2.size := by omega
 have y5 : ¬ 9223372036854775807 < s1.size + 1 := by omega
 have y6 : ¬ 9223372036854775807 < s1.size + 1 + s2.size := by omega
 have y7 : ¬ 9223372036854775807 ≤ s1.size := by omega
 have y8 : ¬ 9223372036854775807 ≤ 1 + s1.size := by omega
 have HE := Lib.hid (show Value.string ((⟨#[45]⟩ : ByteArray) ++ s1) = .string (bsOf (strF q)) by
  rw [← hs1, Int.toNat_natCast, strF, if_pos ha, strW, if_pos hn]
  first | rfl | (refine congrArg Value.string (ByteArray.ext ?_); simp [bsOf, ByteArray.data_append]))
 have HS1 := Lib.hid hs1
 have HS2 := Lib.hid hs2
 have HA := Lib.hid ha
 clear hx hs1 hs2 ha hn z1 z2 hK
 have HF0 := Lib.hid (show Fr [(w.heap.size, 0, (.bool true)), (w.heap.size, 1, (.slice nA nn nc)), (w.heap.size, 2, (.slice dA dn dc))] (w.heap.size + 1) (w.alloc (.cells #[.bool true, .slice nA nn nc, .slice dA dn dc] 60)) from frq)
 go_enter Tryz.func67, Tryz.ntmps67
 go_wp2_with fail
 refine (d_textNat' (HX.out.hn.below blq) (by have := HK.out; omega) HS1.out).mono ?_
 rintro e w1 ⟨rfl, hb1⟩
 have HF1 := Lib.hid (show Fr _ _ w1 from HF0.out.go blq)
 have hz1 : w.heap.size + 1 ≤ w1.heap.size := HF1.out.1
 have hl1_0 := lt1 hz1
 obtain ⟨q1_0, q1_1, q1_2, -⟩ := HF1.out.alls 0 3
 go_wp2_with fail
 refine (q_Whole_1 (HX.out.below blq) HK.out HA.out).mono ?_
 rintro e w2 ⟨rfl, hb2⟩
 have HF2 := Lib.hid (show Fr _ _ w2 from HF1.out.go blq)
 have hz2 : w.heap.size + 1 ≤ w2.heap.size := HF2.out.1
 have hl2_0 := lt1 hz2
 obtain ⟨q2_0, q2_1, q2_2, -⟩ := HF2.out.alls 0 3
 go_wp2_with fail
 go_ret
 exact ⟨congrArg Ending.returned HE.out, blq⟩
theorem q_Write_10 {x : QV} {q : Rat} (hx : IsQ P K w x q) (hK : K ≤ 1000000000) (hn : q.num < 0) (ha : ¬ q.den = 1) :
 Calls Tryz.prog 67 #[.agg #[.bool x.b, .slice x.nA x.nn x.nc, .slice x.dA x.dn x.dc]] w fun e w' => e = .returned (.string (bsOf (strF q))) ∧ Below w.heap.size w w' := by
 obtain ⟨xb, nA, nn, nc, dA, dn, dc⟩ := x
 obtain rfl : xb = true := hx.hb.trans (decide_eq_true hn)
 have HX := Lib.hid (hx.gap 1)
 have HK := Lib.hid hK
 clear hK
 have hK := HK.out
 obtain ⟨s1, hs1⟩ : ∃ s : ByteArray, (⟨(dec ((q.num.natAbs : Int)).toNat).toArray⟩ : ByteArray) = s := ⟨_, rfl⟩
 obtain ⟨s2, hs2⟩ : ∃ s : ByteArray, (⟨(dec ((q.den : Int)).toNat).toArray⟩ : ByteArray) = s := ⟨_, rfl⟩
 have z1 := text_size (K := K) (by have := hx.bdn; simpa using this) hs1
 have z2 := text_size (K := K) (by have := hx.bdd; simpa using this) hs2
 have y1 : 1 + s1.size < 9223372036854775807 := by omega
 have y2 : ¬ 9223372036854775807 < 1 + s1.size := by omega
 have y3 : ¬ 9223372036854775807 < 1 + s1.size + 1 := by omega
 have y4 : ¬ 9223372036854775807 < 1 + s1.size + 1 + s2.size := by omega
 have y5 : ¬ 9223372036854775807 < s1.size + 1 := by omega
 have y6 : ¬ 9223372036854775807 < s1.size + 1 + s2.size := by omega
 have y7 : ¬ 9223372036854775807 ≤ s1.size := by omega
 have y8 : ¬ 9223372036854775807 ≤ 1 + s1.size := by omega
 have HE := Lib.hid (show Value.string (((⟨#[45]⟩ : ByteArray) ++ s1) ++ ⟨#[47]⟩ ++ s2) = .string (bsOf (strF q)) by
  rw [← hs1, ← hs2, Int.toNat_natCast, Int.toNat_natCast, strF, if_neg ha, strW, if_pos hn]
  first | rfl | (refine congrArg Value.string (ByteArray.ext ?_); simp [bsOf, ByteArray.data_append]))
 have HS1 := Lib.hid hs1
 have HS2 := Lib.hid hs2
 have HA := Lib.hid ha
 clear hx hs1 hs2 ha hn z1 z2 hK
 have HF0 := Lib.hid (show Fr [(w.heap.size, 0, (.bool true)), (w.heap.size, 1, (.slice nA nn nc)), (w.heap.size, 2, (.slice dA dn dc))] (w.heap.size + 1) (w.alloc (.cells #[.bool true, .slice nA nn nc, .slice dA dn dc] 60)) from frq)
 go_enter Tryz.func67, Tryz.ntmps67
 go_wp2_with fail
 refine (d_textNat' (HX.out.hn.below blq) (by have := HK.out; omega) HS1.out).mono ?_
 rintro e w1 ⟨rfl, hb1⟩
 have HF1 := Lib.hid (show Fr _ _ w1 from HF0.out.go blq)
 have hz1 : w.heap.size + 1 ≤ w1.heap.size := HF1.out.1
 have hl1_0 := lt1 hz1
 obtain ⟨q1_0, q1_1, q1_2, -⟩ := HF1.out.alls 0 3
 go_wp2_with fail
 refine (q_Whole_0 (HX.out.below blq) HK.out HA.out).mono ?_
 rintro e w2 ⟨rfl, hb2⟩
 have HF2 := Lib.hid (show Fr _ _ w2 from HF1.out.go blq)
 have hz2 : w.heap.size + 1 ≤ w2.heap.size := HF2.out.1
 have hl2_0 := lt1 hz2
 obtain ⟨q2_0, q2_1, q2_2, -⟩ := HF2.out.alls 0 3
 go_wp2_with fail
 refine (d_textNat' (HX.out.hd.below blq) (by have := HK.out; omega) HS2.out).mono ?_
 rintro e w3 ⟨rfl, hb3⟩
 have HF3 := Lib.hid (show Fr _ _ w3 from HF2.out.go blq)
 have hz3 : w.heap.size + 1 ≤ w3.heap.size := HF3.out.1
 have hl3_0 := lt1 hz3
 obtain ⟨q3_0, q3_1, q3_2, -⟩ := HF3.out.alls 0 3
 go_wp2_with fail
 go_ret
 exact ⟨congrArg Ending.returned HE.out, blq⟩
theorem q_Write_01 {x : QV} {q : Rat} (hx : IsQ P K w x q) (hK : K ≤ 1000000000) (hn : ¬ q.num < 0) (ha : q.den = 1) :
 Calls Tryz.prog 67 #[.agg #[.bool x.b, .slice x.nA x.nn x.nc, .slice x.dA x.dn x.dc]] w fun e w' => e = .returned (.string (bsOf (strF q))) ∧ Below w.heap.size w w' := by
 obtain ⟨xb, nA, nn, nc, dA, dn, dc⟩ := x
 obtain rfl : xb = false := hx.hb.trans (decide_eq_false hn)
 have HX := Lib.hid (hx.gap 1)
 have HK := Lib.hid hK
 clear hK
 have hK := HK.out
 obtain ⟨s1, hs1⟩ : ∃ s : ByteArray, (⟨(dec ((q.num.natAbs : Int)).toNat).toArray⟩ : ByteArray) = s := ⟨_, rfl⟩
 obtain ⟨s2, hs2⟩ : ∃ s : ByteArray, (⟨(dec ((q.den : Int)).toNat).toArray⟩ : ByteArray) = s := ⟨_, rfl⟩
 have z1 := text_size (K := K) (by have := hx.bdn; simpa using this) hs1
 have z2 := text_size (K := K) (by have := hx.bdd; simpa using this) hs2
 have y1 : 1 + s1.size < 9223372036854775807 := by omega
 have y2 : ¬ 9223372036854775807 < 1 + s1.size := by omega
 have y3 : ¬ 9223372036854775807 < 1 + s1.size + 1 := by omega
 have y4 : ¬ 9223372036854775807 < 1 + s1.size + 1 + s2.size := by omega
 have y5 : ¬ 9223372036854775807 < s1.size + 1 := by omega
 have y6 : ¬ 9223372036854775807 < s1.size + 1 + s2.size := by omega
 have y7 : ¬ 9223372036854775807 ≤ s1.size := by omega
 have y8 : ¬ 9223372036854775807 ≤ 1 + s1.size := by omega
 have HE := Lib.hid (show Value.string s1 = .string (bsOf (strF q)) by
  rw [← hs1, Int.toNat_natCast, strF, if_pos ha, strW, if_neg hn]
  first | rfl | (refine congrArg Value.string (ByteArray.ext ?_); simp [bsOf, ByteArray.data_append]))
 have HS1 := Lib.hid hs1
 have HS2 := Lib.hid hs2
 have HA := Lib.hid ha
 clear hx hs1 hs2 ha hn z1 z2 hK
 have HF0 := Lib.hid (show Fr [(w.heap.size, 0, (.bool false)), (w.heap.size, 1, (.slice nA nn nc)), (w.heap.size, 2, (.slice dA dn dc))] (w.heap.size + 1) (w.alloc (.cells #[.bool false, .slice nA nn nc, .slice dA dn dc] 60)) from frq)
 go_enter Tryz.func67, Tryz.ntmps67
 go_wp2_with fail
 refine (d_textNat' (HX.out.hn.below blq) (by have := HK.out; omega) HS1.out).mono ?_
 rintro e w1 ⟨rfl, hb1⟩
 have HF1 := Lib.hid (show Fr _ _ w1 from HF0.out.go blq)
 have hz1 : w.heap.size + 1 ≤ w1.heap.size := HF1.out.1
 have hl1_0 := lt1 hz1
 obtain ⟨q1_0, q1_1, q1_2, -⟩ := HF1.out.alls 0 3
 go_wp2_with fail
 refine (q_Whole_1 (HX.out.below blq) HK.out HA.out).mono ?_
 rintro e w2 ⟨rfl, hb2⟩
 have HF2 := Lib.hid (show Fr _ _ w2 from HF1.out.go blq)
 have hz2 : w.heap.size + 1 ≤ w2.heap.size := HF2.out.1
 have hl2_0 := lt1 hz2
 obtain ⟨q2_0, q2_1, q2_2, -⟩ := HF2.out.alls 0 3
 go_wp2_with fail
 go_ret
 exact ⟨congrArg Ending.returned HE.out, blq⟩
theorem q_Write_00 {x : QV} {q : Rat} (hx : IsQ P K w x q) (hK : K ≤ 1000000000) (hn : ¬ q.num < 0) (ha : ¬ q.den = 1) :
 Calls Tryz.prog 67 #[.agg #[.bool x.b, .slice x.nA x.nn x.nc, .slice x.dA x.dn x.dc]] w fun e w' => e = .returned (.string (bsOf (strF q))) ∧ Below w.heap.size w w' := by
 obtain ⟨xb, nA, nn, nc, dA, dn, dc⟩ := x
 obtain rfl : xb = false := hx.hb.trans (decide_eq_false hn)
 have HX := Lib.hid (hx.gap 1)
 have HK := Lib.hid hK
 clear hK
 have hK := HK.out
 obtain ⟨s1, hs1⟩ : ∃ s : ByteArray, (⟨(dec ((q.num.natAbs : Int)).toNat).toArray⟩ : ByteArray) = s := ⟨_, rfl⟩
 obtain ⟨s2, hs2⟩ : ∃ s : ByteArray, (⟨(dec ((q.den : Int)).toNat).toArray⟩ : ByteArray) = s := ⟨_, rfl⟩
 have z1 := text_size (K := K) (by have := hx.bdn; simpa using this) hs1
 have z2 := text_size (K := K) (by have := hx.bdd; simpa using this) hs2
 have y1 : 1 + s1.size < 9223372036854775807 := by omega
 have y2 : ¬ 9223372036854775807 < 1 + s1.size := by omega
 have y3 : ¬ 9223372036854775807 < 1 + s1.size + 1 := by omega
 have y4 : ¬ 9223372036854775807 < 1 + s1.size + 1 + s2.size := by omega
 have y5 : ¬ 9223372036854775807 < s1.size + 1 := by omega
 have y6 : ¬ 9223372036854775807 < s1.size + 1 + s2.size := by omega
 have y7 : ¬ 9223372036854775807 ≤ s1.size := by omega
 have y8 : ¬ 9223372036854775807 ≤ 1 + s1.size := by omega
 have HE := Lib.hid (show Value.string (s1 ++ ⟨#[47]⟩ ++ s2) = .string (bsOf (strF q)) by
  rw [← hs1, ← hs2, Int.toNat_natCast, Int.toNat_natCast, strF, if_neg ha, strW, if_neg hn]
  first | rfl | (refine congrArg Value.string (ByteArray.ext ?_); simp [bsOf, ByteArray.data_append]))
 have HS1 := Lib.hid hs1
 have HS2 := Lib.hid hs2
 have HA := Lib.hid ha
 clear hx hs1 hs2 ha hn z1 z2 hK
 have HF0 := Lib.hid (show Fr [(w.heap.size, 0, (.bool false)), (w.heap.size, 1, (.slice nA nn nc)), (w.heap.size, 2, (.slice dA dn dc))] (w.heap.size + 1) (w.alloc (.cells #[.bool false, .slice nA nn nc, .slice dA dn dc] 60)) from frq)
 go_enter Tryz.func67, Tryz.ntmps67
 go_wp2_with fail
 refine (d_textNat' (HX.out.hn.below blq) (by have := HK.out; omega) HS1.out).mono ?_
 rintro e w1 ⟨rfl, hb1⟩
 have HF1 := Lib.hid (show Fr _ _ w1 from HF0.out.go blq)
 have hz1 : w.heap.size + 1 ≤ w1.heap.size := HF1.out.1
 have hl1_0 := lt1 hz1
 obtain ⟨q1_0, q1_1, q1_2, -⟩ := HF1.out.alls 0 3
 go_wp2_with fail
 refine (q_Whole_0 (HX.out.below blq) HK.out HA.out).mono ?_
 rintro e w2 ⟨rfl, hb2⟩
 have HF2 := Lib.hid (show Fr _ _ w2 from HF1.out.go blq)
 have hz2 : w.heap.size + 1 ≤ w2.heap.size := HF2.out.1
 have hl2_0 := lt1 hz2
 obtain ⟨q2_0, q2_1, q2_2, -⟩ := HF2.out.alls 0 3
 go_wp2_with fail
 refine (d_textNat' (HX.out.hd.below blq) (by have := HK.out; omega) HS2.out).mono ?_
 rintro e w3 ⟨rfl, hb3⟩
 have HF3 := Lib.hid (show Fr _ _ w3 from HF2.out.go blq)
 have hz3 : w.heap.size + 1 ≤ w3.heap.size := HF3.out.1
 have hl3_0 := lt1 hz3
 obtain ⟨q3_0, q3_1, q3_2, -⟩ := HF3.out.alls 0 3
 go_wp2_with fail
 go_ret
 exact ⟨congrArg Ending.returned HE.out, blq⟩
theorem q_Write {x : QV} {q : Rat} (hx : IsQ P K w x q) (hK : K ≤ 1000000000)  :
 Calls Tryz.prog 67 #[.agg #[.bool x.b, .slice x.nA x.nn x.nc, .slice x.dA x.dn x.dc]] w fun e w' => e = .returned (.string (bsOf (strF q))) ∧ Below w.heap.size w w' := by
 by_cases h1 : q.num < 0
 · by_cases h2 : q.den = 1
   · exact q_Write_11 hx hK h1 h2
   · exact q_Write_10 hx hK h1 h2
 · by_cases h2 : q.den = 1
   · exact q_Write_01 hx hK h1 h2
   · exact q_Write_00 hx hK h1 h2
end
end Go.Proofs.YtpdghgfbfmaplaaGreatDoor.Rf
end
