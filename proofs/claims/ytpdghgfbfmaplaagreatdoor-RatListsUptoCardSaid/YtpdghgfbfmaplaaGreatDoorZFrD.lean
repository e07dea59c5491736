/- Lemmas for RatLists. -/
import Derived.Test.YtpdghgfbfmaplaaGreatDoorZFrC
set_option maxRecDepth 100000
set_option maxHeartbeats 8000000
section
set_option linter.unusedVariables false
set_option linter.unusedSimpArgs false
namespace Go.Proofs.YtpdghgfbfmaplaaGreatDoor.Wh
open Go.RowKit Go.Proofs.YtpdghgfbfmaplaaGreatDoorW.PrintWords Go.Proofs.YtpdghgfbfmaplaaGreatDoor.Num Go.Proofs.YtpdghgfbfmaplaaGreatDoor.Dec
section
variable {P:Nat→Prop} {K K':Nat} {w:World}
theorem c_One'{x:WV}{z:Int}{b:Bool}(hx:IsW P K w x z)(hb:decide (z=1)=b):Calls Tryz.prog 99 #[.agg #[.bool x.b,.slice x.A x.n x.c]] w fun e w'=>e=.returned (.bool b)∧Below w.heap.size w w':=hb▸c_One hx
theorem den1{q:Rat}(h:q.den=1):decide ((q.den:Int)=1)=true:=decide_eq_true (by omega)
theorem den0{q:Rat}(h:¬q.den=1):decide ((q.den:Int)=1)=false:=decide_eq_false (by omega)
theorem c_FMul_11{x y:FV}{q p:Rat}(hx:IsF P K w x q)(hy:IsF P K w y p)(hK:K≤100000000)(hP:∀k,w.heap.size≤k→P k)(ha:q.den=1)(hb:p.den=1) :
 Calls Tryz.prog 74 #[.agg #[.bool x.num.b,.slice x.num.A x.num.n x.num.c,.bool x.den.b,.slice x.den.A x.den.n x.den.c],.agg #[.bool y.num.b,.slice y.num.A y.num.n y.num.c,.bool y.den.b,.slice y.den.A y.den.n y.den.c]] w fun e w'=>∃r:FV,e=.returned (.agg #[.bool r.num.b,.slice r.num.A r.num.n r.num.c,.bool r.den.b,.slice r.den.A r.den.n r.den.c])∧IsF P (K+K+1) w' r (q*p)∧Below w.heap.size w w':=by
 have HX:=Lib.hid (hx.gap 3)
 have HY:=Lib.hid (hy.gap 3)
 have HP:=Lib.hid hP
 have HK:=Lib.hid hK
 clear hx hy hP hK
 have HA:=Lib.hid ha
 have HB:=Lib.hid hb
 clear ha hb
 have HF0:=Lib.hid (show Fr [(w.heap.size,0,(.bool x.num.b)),(w.heap.size,1,(.slice x.num.A x.num.n x.num.c)),(w.heap.size,2,(.bool x.den.b)),(w.heap.size,3,(.slice x.den.A x.den.n x.den.c)),(w.heap.size+1,0,(.bool y.num.b)),(w.heap.size+1,1,(.slice y.num.A y.num.n y.num.c)),(w.heap.size+1,2,(.bool y.den.b)),(w.heap.size+1,3,(.slice y.den.A y.den.n y.den.c)),(w.heap.size+1+1,0,(.bool false)),(w.heap.size+1+1,1,(.slice none 0 0)),(w.heap.size+1+1,2,(.bool false)),(w.heap.size+1+1,3,(.slice none 0 0))] (w.heap.size+1+1+1) (((w.alloc (.cells #[.bool x.num.b,.slice x.num.A x.num.n x.num.c,.bool x.den.b,.slice x.den.A x.den.n x.den.c] 52)).alloc (.cells #[.bool y.num.b,.slice y.num.A y.num.n y.num.c,.bool y.den.b,.slice y.den.A y.den.n y.den.c] 52)).alloc (.cells #[.bool false,.slice none 0 0,.bool false,.slice none 0 0] 52))from frq)
 go_enter Tryz.func74,Tryz.ntmps74
 go_wp2_with fail
 refine(c_One' (HX.out.hd.below blq) (den1 HA.out)).mono ?_
 rintro e w1 ⟨rfl,hb1⟩
 have HF1:=fgo w1 HF0
 have hz1:=HF1.out.1
 obtain⟨hl1_0,hl1_1,hl1_2⟩:=lt3 hz1
 obtain⟨_,_,_,_,_,_,_,_,_,_,_,_,-⟩:=HF1.out.alls 0 12
 obtain⟨_,_,_,_,-⟩:=HF1.out.falls 8 4
 go_wp2_with fail
 refine(c_One' (HY.out.hd.below blq) (den1 HB.out)).mono ?_
 rintro e w2 ⟨rfl,hb2⟩
 have HF2:=fgo w2 HF1
 have hz2:=HF2.out.1
 obtain⟨hl2_0,hl2_1,hl2_2⟩:=lt3 hz2
 obtain⟨_,_,_,_,_,_,_,_,_,_,_,_,-⟩:=HF2.out.alls 0 12
 obtain⟨_,_,_,_,-⟩:=HF2.out.falls 8 4
 go_wp2_with fail
 go_region_held3 (fun W=>W.cell? ⟨w.heap.size,0,none⟩=some (.bool x.num.b)∧W.cell? ⟨w.heap.size,1,none⟩=some (.slice x.num.A x.num.n x.num.c)∧W.cell? ⟨w.heap.size,2,none⟩=some (.bool x.den.b)∧W.cell? ⟨w.heap.size,3,none⟩=some (.slice x.den.A x.den.n x.den.c)∧W.cell? ⟨w.heap.size+1,0,none⟩=some (.bool y.num.b)∧W.cell? ⟨w.heap.size+1,1,none⟩=some (.slice y.num.A y.num.n y.num.c)∧W.cell? ⟨w.heap.size+1,2,none⟩=some (.bool y.den.b)∧W.cell? ⟨w.heap.size+1,3,none⟩=some (.slice y.den.A y.den.n y.den.c))
  (exact⟨(by(repeat (with_reducible refine cell_far ?_ arq));exact(HF2.out.go blq).get 0 rfl),(by(repeat (with_reducible refine cell_far ?_ arq));exact(HF2.out.go blq).get 1 rfl),(by(repeat (with_reducible refine cell_far ?_ arq));exact(HF2.out.go blq).get 2 rfl),(by(repeat (with_reducible refine cell_far ?_ arq));exact(HF2.out.go blq).get 3 rfl),(by(repeat (with_reducible refine cell_far ?_ arq));exact(HF2.out.go blq).get 4 rfl),(by(repeat (with_reducible refine cell_far ?_ arq));exact(HF2.out.go blq).get 5 rfl),(by(repeat (with_reducible refine cell_far ?_ arq));exact(HF2.out.go blq).get 6 rfl),(by(repeat (with_reducible refine cell_far ?_ arq));exact(HF2.out.go blq).get 7 rfl)⟩)
  (first
   | (go_at_call 80;go_must (with_reducible refine(c_Mul (P:=Gp P w.heap.size 3) (HX.out.hn.below blq) (HY.out.hn.below blq) (by have:=HK.out;omega) (by have:=HK.out;omega) (gap_fresh HP.out blq arq)).mono ?_);rintro e w3 ⟨x1,rfl,hx1,hb3⟩;have HX1:=Lib.hid hx1;clear hx1;have HF3:=fgo w3 HF2;have hz3:=HF3.out.1;obtain⟨hl3_0,hl3_1,hl3_2⟩:=lt3 hz3;obtain⟨q3_8,q3_9,q3_10,q3_11,-⟩:=HF3.out.alls 8 4;obtain⟨_,_,_,_,-⟩:=HF3.out.falls 8 4))
 go_wp2_with fail
 refine bodyPost_ret (v:=.agg #[.bool (FV.mk x1 x.den).num.b,.slice (FV.mk x1 x.den).num.A (FV.mk x1 x.den).num.n (FV.mk x1 x.den).num.c,.bool (FV.mk x1 x.den).den.b,.slice (FV.mk x1 x.den).den.A (FV.mk x1 x.den).den.n (FV.mk x1 x.den).den.c]) (by simp [results,Tryz.results74,go_sem,q3_8,q3_9,q3_10,q3_11]) rfl ⟨⟨x1,x.den⟩,rfl,IsF.ungap (s:=w.heap.size) (n:=3) ⟨?_,?_⟩,blq⟩
 · rw [(mul_int HA.out HB.out).1];exact(((((HX1.out.wide (by omega)).put _ arq arq).put _ arq arq).put _ arq arq).put _ arq arq)
 · rw [(mul_int HA.out HB.out).2.trans HA.out.symm];exact((((((HX.out.hd.wide (by omega)).below blq).put _ arq arq).put _ arq arq).put _ arq arq).put _ arq arq)
theorem c_FMul_10{x y:FV}{q p:Rat}(hx:IsF P K w x q)(hy:IsF P K w y p)(hK:K≤100000000)(hP:∀k,w.heap.size≤k→P k)(ha:q.den=1)(hb:¬p.den=1) :
 Calls Tryz.prog 74 #[.agg #[.bool x.num.b,.slice x.num.A x.num.n x.num.c,.bool x.den.b,.slice x.den.A x.den.n x.den.c],.agg #[.bool y.num.b,.slice y.num.A y.num.n y.num.c,.bool y.den.b,.slice y.den.A y.den.n y.den.c]] w fun e w'=>∃r:FV,e=.returned (.agg #[.bool r.num.b,.slice r.num.A r.num.n r.num.c,.bool r.den.b,.slice r.den.A r.den.n r.den.c])∧IsF P (K+K+1) w' r (q*p)∧Below w.heap.size w w':=by
 have HX:=Lib.hid (hx.gap 3)
 have HY:=Lib.hid (hy.gap 3)
 have HP:=Lib.hid hP
 have HK:=Lib.hid hK
 clear hx hy hP hK
 have HA:=Lib.hid ha
 clear ha
 have HB:=Lib.hid hb
 clear hb
 have HN:=Lib.hid (show((q.den:Int)*(p.den:Int))≠0 from Int.mul_ne_zero (by have:=den_pos q;omega) (by have:=den_pos p;omega))
 have HF0:=Lib.hid (show Fr [(w.heap.size,0,(.bool x.num.b)),(w.heap.size,1,(.slice x.num.A x.num.n x.num.c)),(w.heap.size,2,(.bool x.den.b)),(w.heap.size,3,(.slice x.den.A x.den.n x.den.c)),(w.heap.size+1,0,(.bool y.num.b)),(w.heap.size+1,1,(.slice y.num.A y.num.n y.num.c)),(w.heap.size+1,2,(.bool y.den.b)),(w.heap.size+1,3,(.slice y.den.A y.den.n y.den.c)),(w.heap.size+1+1,0,(.bool false)),(w.heap.size+1+1,1,(.slice none 0 0)),(w.heap.size+1+1,2,(.bool false)),(w.heap.size+1+1,3,(.slice none 0 0))] (w.heap.size+1+1+1) (((w.alloc (.cells #[.bool x.num.b,.slice x.num.A x.num.n x.num.c,.bool x.den.b,.slice x.den.A x.den.n x.den.c] 52)).alloc (.cells #[.bool y.num.b,.slice y.num.A y.num.n y.num.c,.bool y.den.b,.slice y.den.A y.den.n y.den.c] 52)).alloc (.cells #[.bool false,.slice none 0 0,.bool false,.slice none 0 0] 52))from frq)
 go_enter Tryz.func74,Tryz.ntmps74
 go_wp2_with fail
 refine(c_One' (HX.out.hd.below blq) (den1 HA.out)).mono ?_
 rintro e w1 ⟨rfl,hb1⟩
 have HF1:=fgo w1 HF0
 have hz1:=HF1.out.1
 obtain⟨hl1_0,hl1_1,hl1_2⟩:=lt3 hz1
 obtain⟨_,_,_,_,_,_,_,_,_,_,_,_,-⟩:=HF1.out.alls 0 12
 obtain⟨_,_,_,_,-⟩:=HF1.out.falls 8 4
 go_wp2_with fail
 refine(c_One' (HY.out.hd.below blq) (den0 HB.out)).mono ?_
 rintro e w2 ⟨rfl,hb2⟩
 have HF2:=fgo w2 HF1
 have hz2:=HF2.out.1
 obtain⟨hl2_0,hl2_1,hl2_2⟩:=lt3 hz2
 obtain⟨_,_,_,_,_,_,_,_,_,_,_,_,-⟩:=HF2.out.alls 0 12
 obtain⟨_,_,_,_,-⟩:=HF2.out.falls 8 4
 go_wp2_with fail
 go_region_held3 (fun W=>W.cell? ⟨w.heap.size,0,none⟩=some (.bool x.num.b)∧W.cell? ⟨w.heap.size,1,none⟩=some (.slice x.num.A x.num.n x.num.c)∧W.cell? ⟨w.heap.size,2,none⟩=some (.bool x.den.b)∧W.cell? ⟨w.heap.size,3,none⟩=some (.slice x.den.A x.den.n x.den.c)∧W.cell? ⟨w.heap.size+1,0,none⟩=some (.bool y.num.b)∧W.cell? ⟨w.heap.size+1,1,none⟩=some (.slice y.num.A y.num.n y.num.c)∧W.cell? ⟨w.heap.size+1,2,none⟩=some (.bool y.den.b)∧W.cell? ⟨w.heap.size+1,3,none⟩=some (.slice y.den.A y.den.n y.den.c))
  (exact⟨(by(repeat (with_reducible refine cell_far ?_ arq));exact(HF2.out.go blq).get 0 rfl),(by(repeat (with_reducible refine cell_far ?_ arq));exact(HF2.out.go blq).get 1 rfl),(by(repeat (with_reducible refine cell_far ?_ arq));exact(HF2.out.go blq).get 2 rfl),(by(repeat (with_reducible refine cell_far ?_ arq));exact(HF2.out.go blq).get 3 rfl),(by(repeat (with_reducible refine cell_far ?_ arq));exact(HF2.out.go blq).get 4 rfl),(by(repeat (with_reducible refine cell_far ?_ arq));exact(HF2.out.go blq).get 5 rfl),(by(repeat (with_reducible refine cell_far ?_ arq));exact(HF2.out.go blq).get 6 rfl),(by(repeat (with_reducible refine cell_far ?_ arq));exact(HF2.out.go blq).get 7 rfl)⟩)
  (first
   | (go_at_call_of 80 (Value.agg #[Value.bool x.num.b,Value.slice x.num.A x.num.n x.num.c]);go_must (with_reducible refine(c_Mul (P:=Gp P w.heap.size 3) (HX.out.hn.below blq) (HY.out.hn.below blq) (by have:=HK.out;omega) (by have:=HK.out;omega) (gap_fresh HP.out blq arq)).mono ?_);rintro e w3 ⟨x1,rfl,hx1,hb3⟩;have HX1:=Lib.hid hx1;clear hx1;have HF3:=fgo w3 HF2;have hz3:=HF3.out.1;obtain⟨hl3_0,hl3_1,hl3_2⟩:=lt3 hz3;obtain⟨_,_,_,_,-⟩:=HF3.out.alls 8 4;obtain⟨_,_,_,_,-⟩:=HF3.out.falls 8 4)
   | (go_at_call_of 80 (Value.agg #[Value.bool x.den.b,Value.slice x.den.A x.den.n x.den.c]);go_must (with_reducible refine(c_Mul (P:=Gp P w.heap.size 3) (HX.out.hd.below blq) (HY.out.hd.below blq) (by have:=HK.out;omega) (by have:=HK.out;omega) (gap_fresh HP.out blq arq)).mono ?_);rintro e w4 ⟨x2,rfl,hx2,hb4⟩;have HX2:=Lib.hid hx2;clear hx2;have HF4:=fgo w4 HF2;have hz4:=HF4.out.1;obtain⟨hl4_0,hl4_1,hl4_2⟩:=lt3 hz4;obtain⟨_,_,_,_,-⟩:=HF4.out.alls 8 4;obtain⟨_,_,_,_,-⟩:=HF4.out.falls 8 4)
   | (go_at_call 58;go_must (with_reducible refine(c_New (P:=Gp P w.heap.size 3) (HX1.out.below blq) (HX2.out.below blq) HN.out (by have:=HK.out;omega) (gap_fresh HP.out blq arq)).mono ?_);rintro e w5 ⟨r,rfl,hr,hb5⟩;have HR:=Lib.hid hr;clear hr;have HF5:=fgo w5 HF2;have hz5:=HF5.out.1;obtain⟨hl5_0,hl5_1,hl5_2⟩:=lt3 hz5;obtain⟨q5_8,q5_9,q5_10,q5_11,-⟩:=HF5.out.alls 8 4;obtain⟨_,_,_,_,-⟩:=HF5.out.falls 8 4))
 go_wp2_with fail
 refine bodyPost_ret (v:=.agg #[.bool r.num.b,.slice r.num.A r.num.n r.num.c,.bool r.den.b,.slice r.den.A r.den.n r.den.c]) (by simp [results,Tryz.results74,go_sem,q5_8,q5_9,q5_10,q5_11]) rfl ⟨r,rfl,IsF.ungap (s:=w.heap.size) (n:=3) ?_,blq⟩
 rw [←mul_divInt];exact((((HR.out.put _ arq arq).put _ arq arq).put _ arq arq).put _ arq arq)
theorem c_FMul_0{x y:FV}{q p:Rat}(hx:IsF P K w x q)(hy:IsF P K w y p)(hK:K≤100000000)(hP:∀k,w.heap.size≤k→P k)(ha:¬q.den=1) :
 Calls Tryz.prog 74 #[.agg #[.bool x.num.b,.slice x.num.A x.num.n x.num.c,.bool x.den.b,.slice x.den.A x.den.n x.den.c],.agg #[.bool y.num.b,.slice y.num.A y.num.n y.num.c,.bool y.den.b,.slice y.den.A y.den.n y.den.c]] w fun e w'=>∃r:FV,e=.returned (.agg #[.bool r.num.b,.slice r.num.A r.num.n r.num.c,.bool r.den.b,.slice r.den.A r.den.n r.den.c])∧IsF P (K+K+1) w' r (q*p)∧Below w.heap.size w w':=by
 have HX:=Lib.hid (hx.gap 3)
 have HY:=Lib.hid (hy.gap 3)
 have HP:=Lib.hid hP
 have HK:=Lib.hid hK
 clear hx hy hP hK
 have HA:=Lib.hid ha
 clear ha
 have HN:=Lib.hid (show((q.den:Int)*(p.den:Int))≠0 from Int.mul_ne_zero (by have:=den_pos q;omega) (by have:=den_pos p;omega))
 have HF0:=Lib.hid (show Fr [(w.heap.size,0,(.bool x.num.b)),(w.heap.size,1,(.slice x.num.A x.num.n x.num.c)),(w.heap.size,2,(.bool x.den.b)),(w.heap.size,3,(.slice x.den.A x.den.n x.den.c)),(w.heap.size+1,0,(.bool y.num.b)),(w.heap.size+1,1,(.slice y.num.A y.num.n y.num.c)),(w.heap.size+1,2,(.bool y.den.b)),(w.heap.size+1,3,(.slice y.den.A y.den.n y.den.c)),(w.heap.size+1+1,0,(.bool false)),(w.heap.size+1+1,1,(.slice none 0 0)),(w.heap.size+1+1,2,(.bool false)),(w.heap.size+1+1,3,(.slice none 0 0))] (w.heap.size+1+1+1) (((w.alloc (.cells #[.bool x.num.b,.slice x.num.A x.num.n x.num.c,.bool x.den.b,.slice x.den.A x.den.n x.den.c] 52)).alloc (.cells #[.bool y.num.b,.slice y.num.A y.num.n y.num.c,.bool y.den.b,.slice y.den.A y.den.n y.den.c] 52)).alloc (.cells #[.bool false,.slice none 0 0,.bool false,.slice none 0 0] 52))from frq)
 go_enter Tryz.func74,Tryz.ntmps74
 go_wp2_with fail
 refine(c_One' (HX.out.hd.below blq) (den0 HA.out)).mono ?_
 rintro e w1 ⟨rfl,hb1⟩
 have HF1:=fgo w1 HF0
 have hz1:=HF1.out.1
 obtain⟨hl1_0,hl1_1,hl1_2⟩:=lt3 hz1
 obtain⟨_,_,_,_,_,_,_,_,_,_,_,_,-⟩:=HF1.out.alls 0 12
 obtain⟨_,_,_,_,-⟩:=HF1.out.falls 8 4
 go_wp2_with fail
 go_region_held3 (fun W=>W.cell? ⟨w.heap.size,0,none⟩=some (.bool x.num.b)∧W.cell? ⟨w.heap.size,1,none⟩=some (.slice x.num.A x.num.n x.num.c)∧W.cell? ⟨w.heap.size,2,none⟩=some (.bool x.den.b)∧W.cell? ⟨w.heap.size,3,none⟩=some (.slice x.den.A x.den.n x.den.c)∧W.cell? ⟨w.heap.size+1,0,none⟩=some (.bool y.num.b)∧W.cell? ⟨w.heap.size+1,1,none⟩=some (.slice y.num.A y.num.n y.num.c)∧W.cell? ⟨w.heap.size+1,2,none⟩=some (.bool y.den.b)∧W.cell? ⟨w.heap.size+1,3,none⟩=some (.slice y.den.A y.den.n y.den.c))
  (exact⟨(by(repeat (with_reducible refine cell_far ?_ arq));exact(HF1.out.go blq).get 0 rfl),(by(repeat (with_reducible refine cell_far ?_ arq));exact(HF1.out.go blq).get 1 rfl),(by(repeat (with_reducible refine cell_far ?_ arq));exact(HF1.out.go blq).get 2 rfl),(by(repeat (with_reducible refine cell_far ?_ arq));exact(HF1.out.go blq).get 3 rfl),(by(repeat (with_reducible refine cell_far ?_ arq));exact(HF1.out.go blq).get 4 rfl),(by(repeat (with_reducible refine cell_far ?_ arq));exact(HF1.out.go blq).get 5 rfl),(by(repeat (with_reducible refine cell_far ?_ arq));exact(HF1.out.go blq).get 6 rfl),(by(repeat (with_reducible refine cell_far ?_ arq));exact(HF1.out.go blq).get 7 rfl)⟩)
  (first
   | (go_at_call_of 80 (Value.agg #[Value.bool x.num.b,Value.slice x.num.A x.num.n x.num.c]);go_must (with_reducible refine(c_Mul (P:=Gp P w.heap.size 3) (HX.out.hn.below blq) (HY.out.hn.below blq) (by have:=HK.out;omega) (by have:=HK.out;omega) (gap_fresh HP.out blq arq)).mono ?_);rintro e w2 ⟨x1,rfl,hx1,hb2⟩;have HX1:=Lib.hid hx1;clear hx1;have HF2:=fgo w2 HF1;have hz2:=HF2.out.1;obtain⟨hl2_0,hl2_1,hl2_2⟩:=lt3 hz2;obtain⟨_,_,_,_,-⟩:=HF2.out.alls 8 4;obtain⟨_,_,_,_,-⟩:=HF2.out.falls 8 4)
   | (go_at_call_of 80 (Value.agg #[Value.bool x.den.b,Value.slice x.den.A x.den.n x.den.c]);go_must (with_reducible refine(c_Mul (P:=Gp P w.heap.size 3) (HX.out.hd.below blq) (HY.out.hd.below blq) (by have:=HK.out;omega) (by have:=HK.out;omega) (gap_fresh HP.out blq arq)).mono ?_);rintro e w3 ⟨x2,rfl,hx2,hb3⟩;have HX2:=Lib.hid hx2;clear hx2;have HF3:=fgo w3 HF1;have hz3:=HF3.out.1;obtain⟨hl3_0,hl3_1,hl3_2⟩:=lt3 hz3;obtain⟨_,_,_,_,-⟩:=HF3.out.alls 8 4;obtain⟨_,_,_,_,-⟩:=HF3.out.falls 8 4)
   | (go_at_call 58;go_must (with_reducible refine(c_New (P:=Gp P w.heap.size 3) (HX1.out.below blq) (HX2.out.below blq) HN.out (by have:=HK.out;omega) (gap_fresh HP.out blq arq)).mono ?_);rintro e w4 ⟨r,rfl,hr,hb4⟩;have HR:=Lib.hid hr;clear hr;have HF4:=fgo w4 HF1;have hz4:=HF4.out.1;obtain⟨hl4_0,hl4_1,hl4_2⟩:=lt3 hz4;obtain⟨q4_8,q4_9,q4_10,q4_11,-⟩:=HF4.out.alls 8 4;obtain⟨_,_,_,_,-⟩:=HF4.out.falls 8 4))
 go_wp2_with fail
 refine bodyPost_ret (v:=.agg #[.bool r.num.b,.slice r.num.A r.num.n r.num.c,.bool r.den.b,.slice r.den.A r.den.n r.den.c]) (by simp [results,Tryz.results74,go_sem,q4_8,q4_9,q4_10,q4_11]) rfl ⟨r,rfl,IsF.ungap (s:=w.heap.size) (n:=3) ?_,blq⟩
 rw [←mul_divInt];exact((((HR.out.put _ arq arq).put _ arq arq).put _ arq arq).put _ arq arq)
theorem c_FMul{x y:FV}{q p:Rat}(hx:IsF P K w x q)(hy:IsF P K w y p)(hK:K≤100000000)(hP:∀k,w.heap.size≤k→P k) :
 Calls Tryz.prog 74 #[.agg #[.bool x.num.b,.slice x.num.A x.num.n x.num.c,.bool x.den.b,.slice x.den.A x.den.n x.den.c],.agg #[.bool y.num.b,.slice y.num.A y.num.n y.num.c,.bool y.den.b,.slice y.den.A y.den.n y.den.c]] w fun e w'=>∃r:FV,e=.returned (.agg #[.bool r.num.b,.slice r.num.A r.num.n r.num.c,.bool r.den.b,.slice r.den.A r.den.n r.den.c])∧IsF P (K+K+1) w' r (q*p)∧Below w.heap.size w w':=by
 by_cases ha:q.den=1
 · by_cases hb:p.den=1
   · exact c_FMul_11 hx hy hK hP ha hb
   · exact c_FMul_10 hx hy hK hP ha hb
 · exact c_FMul_0 hx hy hK hP ha
theorem c_FAdd_11{x y:FV}{q p:Rat}(hx:IsF P K w x q)(hy:IsF P K w y p)(hK:K≤100000000)(hP:∀k,w.heap.size≤k→P k)(ha:q.den=1)(hb:p.den=1) :
 Calls Tryz.prog 70 #[.agg #[.bool x.num.b,.slice x.num.A x.num.n x.num.c,.bool x.den.b,.slice x.den.A x.den.n x.den.c],.agg #[.bool y.num.b,.slice y.num.A y.num.n y.num.c,.bool y.den.b,.slice y.den.A y.den.n y.den.c]] w fun e w'=>∃r:FV,e=.returned (.agg #[.bool r.num.b,.slice r.num.A r.num.n r.num.c,.bool r.den.b,.slice r.den.A r.den.n r.den.c])∧IsF P (K+K+2) w' r (q+p)∧Below w.heap.size w w':=by
 have HX:=Lib.hid (hx.gap 3)
 have HY:=Lib.hid (hy.gap 3)
 have HP:=Lib.hid hP
 have HK:=Lib.hid hK
 clear hx hy hP hK
 have HA:=Lib.hid ha
 have HB:=Lib.hid hb
 clear ha hb
 have HF0:=Lib.hid (show Fr [(w.heap.size,0,(.bool x.num.b)),(w.heap.size,1,(.slice x.num.A x.num.n x.num.c)),(w.heap.size,2,(.bool x.den.b)),(w.heap.size,3,(.slice x.den.A x.den.n x.den.c)),(w.heap.size+1,0,(.bool y.num.b)),(w.heap.size+1,1,(.slice y.num.A y.num.n y.num.c)),(w.heap.size+1,2,(.bool y.den.b)),(w.heap.size+1,3,(.slice y.den.A y.den.n y.den.c)),(w.heap.size+1+1,0,(.bool false)),(w.heap.size+1+1,1,(.slice none 0 0)),(w.heap.size+1+1,2,(.bool false)),(w.heap.size+1+1,3,(.slice none 0 0))] (w.heap.size+1+1+1) (((w.alloc (.cells #[.bool x.num.b,.slice x.num.A x.num.n x.num.c,.bool x.den.b,.slice x.den.A x.den.n x.den.c] 52)).alloc (.cells #[.bool y.num.b,.slice y.num.A y.num.n y.num.c,.bool y.den.b,.slice y.den.A y.den.n y.den.c] 52)).alloc (.cells #[.bool false,.slice none 0 0,.bool false,.slice none 0 0] 52))from frq)
 go_enter Tryz.func70,Tryz.ntmps70
 go_wp2_with fail
 refine(c_One' (HX.out.hd.below blq) (den1 HA.out)).mono ?_
 rintro e w1 ⟨rfl,hb1⟩
 have HF1:=fgo w1 HF0
 have hz1:=HF1.out.1
 obtain⟨hl1_0,hl1_1,hl1_2⟩:=lt3 hz1
 obtain⟨_,_,_,_,_,_,_,_,_,_,_,_,-⟩:=HF1.out.alls 0 12
 obtain⟨_,_,_,_,-⟩:=HF1.out.falls 8 4
 go_wp2_with fail
 refine(c_One' (HY.out.hd.below blq) (den1 HB.out)).mono ?_
 rintro e w2 ⟨rfl,hb2⟩
 have HF2:=fgo w2 HF1
 have hz2:=HF2.out.1
 obtain⟨hl2_0,hl2_1,hl2_2⟩:=lt3 hz2
 obtain⟨_,_,_,_,_,_,_,_,_,_,_,_,-⟩:=HF2.out.alls 0 12
 obtain⟨_,_,_,_,-⟩:=HF2.out.falls 8 4
 go_wp2_with fail
 go_region_held3 (fun W=>W.cell? ⟨w.heap.size,0,none⟩=some (.bool x.num.b)∧W.cell? ⟨w.heap.size,1,none⟩=some (.slice x.num.A x.num.n x.num.c)∧W.cell? ⟨w.heap.size,2,none⟩=some (.bool x.den.b)∧W.cell? ⟨w.heap.size,3,none⟩=some (.slice x.den.A x.den.n x.den.c)∧W.cell? ⟨w.heap.size+1,0,none⟩=some (.bool y.num.b)∧W.cell? ⟨w.heap.size+1,1,none⟩=some (.slice y.num.A y.num.n y.num.c)∧W.cell? ⟨w.heap.size+1,2,none⟩=some (.bool y.den.b)∧W.cell? ⟨w.heap.size+1,3,none⟩=some (.slice y.den.A y.den.n y.den.c))
  (exact⟨(by(repeat (with_reducible refine cell_far ?_ arq));exact(HF2.out.go blq).get 0 rfl),(by(repeat (with_reducible refine cell_far ?_ arq));exact(HF2.out.go blq).get 1 rfl),(by(repeat (with_reducible refine cell_far ?_ arq));exact(HF2.out.go blq).get 2 rfl),(by(repeat (with_reducible refine cell_far ?_ arq));exact(HF2.out.go blq).get 3 rfl),(by(repeat (with_reducible refine cell_far ?_ arq));exact(HF2.out.go blq).get 4 rfl),(by(repeat (with_reducible refine cell_far ?_ arq));exact(HF2.out.go blq).get 5 rfl),(by(repeat (with_reducible refine cell_far ?_ arq));exact(HF2.out.go blq).get 6 rfl),(by(repeat (with_reducible refine cell_far ?_ arq));exact(HF2.out.go blq).get 7 rfl)⟩)
  (first
   | (go_at_call 109;go_must (with_reducible refine(c_Add (P:=Gp P w.heap.size 3) (HX.out.hn.below blq) (HY.out.hn.below blq) (by have:=HK.out;omega) (gap_fresh HP.out blq arq)).mono ?_);rintro e w3 ⟨x1,rfl,hx1,hb3⟩;have HX1:=Lib.hid hx1;clear hx1;have HF3:=fgo w3 HF2;have hz3:=HF3.out.1;obtain⟨hl3_0,hl3_1,hl3_2⟩:=lt3 hz3;obtain⟨q3_8,q3_9,q3_10,q3_11,-⟩:=HF3.out.alls 8 4;obtain⟨_,_,_,_,-⟩:=HF3.out.falls 8 4))
 go_wp2_with fail
 refine bodyPost_ret (v:=.agg #[.bool (FV.mk x1 x.den).num.b,.slice (FV.mk x1 x.den).num.A (FV.mk x1 x.den).num.n (FV.mk x1 x.den).num.c,.bool (FV.mk x1 x.den).den.b,.slice (FV.mk x1 x.den).den.A (FV.mk x1 x.den).den.n (FV.mk x1 x.den).den.c]) (by simp [results,Tryz.results70,go_sem,q3_8,q3_9,q3_10,q3_11]) rfl ⟨⟨x1,x.den⟩,rfl,IsF.ungap (s:=w.heap.size) (n:=3) ⟨?_,?_⟩,blq⟩
 · rw [(add_int HA.out HB.out).1];exact(((((HX1.out.wide (by omega)).put _ arq arq).put _ arq arq).put _ arq arq).put _ arq arq)
 · rw [(add_int HA.out HB.out).2.trans HA.out.symm];exact((((((HX.out.hd.wide (by omega)).below blq).put _ arq arq).put _ arq arq).put _ arq arq).put _ arq arq)
theorem c_FAdd_10{x y:FV}{q p:Rat}(hx:IsF P K w x q)(hy:IsF P K w y p)(hK:K≤100000000)(hP:∀k,w.heap.size≤k→P k)(ha:q.den=1)(hb:¬p.den=1) :
 Calls Tryz.prog 70 #[.agg #[.bool x.num.b,.slice x.num.A x.num.n x.num.c,.bool x.den.b,.slice x.den.A x.den.n x.den.c],.agg #[.bool y.num.b,.slice y.num.A y.num.n y.num.c,.bool y.den.b,.slice y.den.A y.den.n y.den.c]] w fun e w'=>∃r:FV,e=.returned (.agg #[.bool r.num.b,.slice r.num.A r.num.n r.num.c,.bool r.den.b,.slice r.den.A r.den.n r.den.c])∧IsF P (K+K+2) w' r (q+p)∧Below w.heap.size w w':=by
 have HX:=Lib.hid (hx.gap 3)
 have HY:=Lib.hid (hy.gap 3)
 have HP:=Lib.hid hP
 have HK:=Lib.hid hK
 clear hx hy hP hK
 have HA:=Lib.hid ha
 clear ha
 have HB:=Lib.hid hb
 clear hb
 have HN:=Lib.hid (show((q.den:Int)*(p.den:Int))≠0 from Int.mul_ne_zero (by have:=den_pos q;omega) (by have:=den_pos p;omega))
 have HF0:=Lib.hid (show Fr [(w.heap.size,0,(.bool x.num.b)),(w.heap.size,1,(.slice x.num.A x.num.n x.num.c)),(w.heap.size,2,(.bool x.den.b)),(w.heap.size,3,(.slice x.den.A x.den.n x.den.c)),(w.heap.size+1,0,(.bool y.num.b)),(w.heap.size+1,1,(.slice y.num.A y.num.n y.num.c)),(w.heap.size+1,2,(.bool y.den.b)),(w.heap.size+1,3,(.slice y.den.A y.den.n y.den.c)),(w.heap.size+1+1,0,(.bool false)),(w.heap.size+1+1,1,(.slice none 0 0)),(w.heap.size+1+1,2,(.bool false)),(w.heap.size+1+1,3,(.slice none 0 0))] (w.heap.size+1+1+1) (((w.alloc (.cells #[.bool x.num.b,.slice x.num.A x.num.n x.num.c,.bool x.den.b,.slice x.den.A x.den.n x.den.c] 52)).alloc (.cells #[.bool y.num.b,.slice y.num.A y.num.n y.num.c,.bool y.den.b,.slice y.den.A y.den.n y.den.c] 52)).alloc (.cells #[.bool false,.slice none 0 0,.bool false,.slice none 0 0] 52))from frq)
 go_enter Tryz.func70,Tryz.ntmps70
 go_wp2_with fail
 refine(c_One' (HX.out.hd.below blq) (den1 HA.out)).mono ?_
 rintro e w1 ⟨rfl,hb1⟩
 have HF1:=fgo w1 HF0
 have hz1:=HF1.out.1
 obtain⟨hl1_0,hl1_1,hl1_2⟩:=lt3 hz1
 obtain⟨_,_,_,_,_,_,_,_,_,_,_,_,-⟩:=HF1.out.alls 0 12
 obtain⟨_,_,_,_,-⟩:=HF1.out.falls 8 4
 go_wp2_with fail
 refine(c_One' (HY.out.hd.below blq) (den0 HB.out)).mono ?_
 rintro e w2 ⟨rfl,hb2⟩
 have HF2:=fgo w2 HF1
 have hz2:=HF2.out.1
 obtain⟨hl2_0,hl2_1,hl2_2⟩:=lt3 hz2
 obtain⟨_,_,_,_,_,_,_,_,_,_,_,_,-⟩:=HF2.out.alls 0 12
 obtain⟨_,_,_,_,-⟩:=HF2.out.falls 8 4
 go_wp2_with fail
 go_region_held3 (fun W=>W.cell? ⟨w.heap.size,0,none⟩=some (.bool x.num.b)∧W.cell? ⟨w.heap.size,1,none⟩=some (.slice x.num.A x.num.n x.num.c)∧W.cell? ⟨w.heap.size,2,none⟩=some (.bool x.den.b)∧W.cell? ⟨w.heap.size,3,none⟩=some (.slice x.den.A x.den.n x.den.c)∧W.cell? ⟨w.heap.size+1,0,none⟩=some (.bool y.num.b)∧W.cell? ⟨w.heap.size+1,1,none⟩=some (.slice y.num.A y.num.n y.num.c)∧W.cell? ⟨w.heap.size+1,2,none⟩=some (.bool y.den.b)∧W.cell? ⟨w.heap.size+1,3,none⟩=some (.slice y.den.A y.den.n y.den.c))
  (exact⟨(by(repeat (with_reducible refine cell_far ?_ arq));exact(HF2.out.go blq).get 0 rfl),(by(repeat (with_reducible refine cell_far ?_ arq));exact(HF2.out.go blq).get 1 rfl),(by(repeat (with_reducible refine cell_far ?_ arq));exact(HF2.out.go blq).get 2 rfl),(by(repeat (with_reducible refine cell_far ?_ arq));exact(HF2.out.go blq).get 3 rfl),(by(repeat (with_reducible refine cell_far ?_ arq));exact(HF2.out.go blq).get 4 rfl),(by(repeat (with_reducible refine cell_far ?_ arq));exact(HF2.out.go blq).get 5 rfl),(by(repeat (with_reducible refine cell_far ?_ arq));exact(HF2.out.go blq).get 6 rfl),(by(repeat (with_reducible refine cell_far ?_ arq));exact(HF2.out.go blq).get 7 rfl)⟩)
  (first
   | (go_at_call_of 80 (Value.agg #[Value.bool x.num.b,Value.slice x.num.A x.num.n x.num.c]);go_must (with_reducible refine(c_Mul (P:=Gp P w.heap.size 3) (HX.out.hn.below blq) (HY.out.hd.below blq) (by have:=HK.out;omega) (by have:=HK.out;omega) (gap_fresh HP.out blq arq)).mono ?_);rintro e w3 ⟨x1,rfl,hx1,hb3⟩;have HX1:=Lib.hid hx1;clear hx1;have HF3:=fgo w3 HF2;have hz3:=HF3.out.1;obtain⟨hl3_0,hl3_1,hl3_2⟩:=lt3 hz3;obtain⟨_,_,_,_,-⟩:=HF3.out.alls 8 4;obtain⟨_,_,_,_,-⟩:=HF3.out.falls 8 4)
   | (go_at_call_of 80 (Value.agg #[Value.bool y.num.b,Value.slice y.num.A y.num.n y.num.c]);go_must (with_reducible refine(c_Mul (P:=Gp P w.heap.size 3) (HY.out.hn.below blq) (HX.out.hd.below blq) (by have:=HK.out;omega) (by have:=HK.out;omega) (gap_fresh HP.out blq arq)).mono ?_);rintro e w4 ⟨x2,rfl,hx2,hb4⟩;have HX2:=Lib.hid hx2;clear hx2;have HF4:=fgo w4 HF2;have hz4:=HF4.out.1;obtain⟨hl4_0,hl4_1,hl4_2⟩:=lt3 hz4;obtain⟨_,_,_,_,-⟩:=HF4.out.alls 8 4;obtain⟨_,_,_,_,-⟩:=HF4.out.falls 8 4)
   | (go_at_call 109;go_must (with_reducible refine(c_Add (P:=Gp P w.heap.size 3) (HX1.out.below blq) (HX2.out.below blq) (by have:=HK.out;omega) (gap_fresh HP.out blq arq)).mono ?_);rintro e w5 ⟨x3,rfl,hx3,hb5⟩;have HX3:=Lib.hid hx3;clear hx3;have HF5:=fgo w5 HF2;have hz5:=HF5.out.1;obtain⟨hl5_0,hl5_1,hl5_2⟩:=lt3 hz5;obtain⟨_,_,_,_,-⟩:=HF5.out.alls 8 4;obtain⟨_,_,_,_,-⟩:=HF5.out.falls 8 4)
   | (go_at_call_of 80 (Value.agg #[Value.bool x.den.b,Value.slice x.den.A x.den.n x.den.c]);go_must (with_reducible refine(c_Mul (P:=Gp P w.heap.size 3) (HX.out.hd.below blq) (HY.out.hd.below blq) (by have:=HK.out;omega) (by have:=HK.out;omega) (gap_fresh HP.out blq arq)).mono ?_);rintro e w6 ⟨x4,rfl,hx4,hb6⟩;have HX4:=Lib.hid hx4;clear hx4;have HF6:=fgo w6 HF2;have hz6:=HF6.out.1;obtain⟨hl6_0,hl6_1,hl6_2⟩:=lt3 hz6;obtain⟨_,_,_,_,-⟩:=HF6.out.alls 8 4;obtain⟨_,_,_,_,-⟩:=HF6.out.falls 8 4)
   | (go_at_call 58;go_must (with_reducible refine(c_New (P:=Gp P w.heap.size 3) (HX3.out.below blq) ((HX4.out.wide (Nat.le_succ _)).below blq) HN.out (by have:=HK.out;omega) (gap_fresh HP.out blq arq)).mono ?_);rintro e w7 ⟨r,rfl,hr,hb7⟩;have HR:=Lib.hid hr;clear hr;have HF7:=fgo w7 HF2;have hz7:=HF7.out.1;obtain⟨hl7_0,hl7_1,hl7_2⟩:=lt3 hz7;obtain⟨q7_8,q7_9,q7_10,q7_11,-⟩:=HF7.out.alls 8 4;obtain⟨_,_,_,_,-⟩:=HF7.out.falls 8 4))
 go_wp2_with fail
 refine bodyPost_ret (v:=.agg #[.bool r.num.b,.slice r.num.A r.num.n r.num.c,.bool r.den.b,.slice r.den.A r.den.n r.den.c]) (by simp [results,Tryz.results70,go_sem,q7_8,q7_9,q7_10,q7_11]) rfl ⟨r,rfl,IsF.ungap (s:=w.heap.size) (n:=3) ?_,blq⟩
 rw [←add_divInt];exact((((HR.out.put _ arq arq).put _ arq arq).put _ arq arq).put _ arq arq)
theorem c_FAdd_0{x y:FV}{q p:Rat}(hx:IsF P K w x q)(hy:IsF P K w y p)(hK:K≤100000000)(hP:∀k,w.heap.size≤k→P k)(ha:¬q.den=1) :
 Calls Tryz.prog 70 #[.agg #[.bool x.num.b,.slice x.num.A x.num.n x.num.c,.bool x.den.b,.slice x.den.A x.den.n x.den.c],.agg #[.bool y.num.b,.slice y.num.A y.num.n y.num.c,.bool y.den.b,.slice y.den.A y.den.n y.den.c]] w fun e w'=>∃r:FV,e=.returned (.agg #[.bool r.num.b,.slice r.num.A r.num.n r.num.c,.bool r.den.b,.slice r.den.A r.den.n r.den.c])∧IsF P (K+K+2) w' r (q+p)∧Below w.heap.size w w':=by
 have HX:=Lib.hid (hx.gap 3)
 have HY:=Lib.hid (hy.gap 3)
 have HP:=Lib.hid hP
 have HK:=Lib.hid hK
 clear hx hy hP hK
 have HA:=Lib.hid ha
 clear ha
 have HN:=Lib.hid (show((q.den:Int)*(p.den:Int))≠0 from Int.mul_ne_zero (by have:=den_pos q;omega) (by have:=den_pos p;omega))
 have HF0:=Lib.hid (show Fr [(w.heap.size,0,(.bool x.num.b)),(w.heap.size,1,(.slice x.num.A x.num.n x.num.c)),(w.heap.size,2,(.bool x.den.b)),(w.heap.size,3,(.slice x.den.A x.den.n x.den.c)),(w.heap.size+1,0,(.bool y.num.b)),(w.heap.size+1,1,(.slice y.num.A y.num.n y.num.c)),(w.heap.size+1,2,(.bool y.den.b)),(w.heap.size+1,3,(.slice y.den.A y.den.n y.den.c)),(w.heap.size+1+1,0,(.bool false)),(w.heap.size+1+1,1,(.slice none 0 0)),(w.heap.size+1+1,2,(.bool false)),(w.heap.size+1+1,3,(.slice none 0 0))] (w.heap.size+1+1+1) (((w.alloc (.cells #[.bool x.num.b,.slice x.num.A x.num.n x.num.c,.bool x.den.b,.slice x.den.A x.den.n x.den.c] 52)).alloc (.cells #[.bool y.num.b,.slice y.num.A y.num.n y.num.c,.bool y.den.b,.slice y.den.A y.den.n y.den.c] 52)).alloc (.cells #[.bool false,.slice none 0 0,.bool false,.slice none 0 0] 52))from frq)
 go_enter Tryz.func70,Tryz.ntmps70
 go_wp2_with fail
 refine(c_One' (HX.out.hd.below blq) (den0 HA.out)).mono ?_
 rintro e w1 ⟨rfl,hb1⟩
 have HF1:=fgo w1 HF0
 have hz1:=HF1.out.1
 obtain⟨hl1_0,hl1_1,hl1_2⟩:=lt3 hz1
 obtain⟨_,_,_,_,_,_,_,_,_,_,_,_,-⟩:=HF1.out.alls 0 12
 obtain⟨_,_,_,_,-⟩:=HF1.out.falls 8 4
 go_wp2_with fail
 go_region_held3 (fun W=>W.cell? ⟨w.heap.size,0,none⟩=some (.bool x.num.b)∧W.cell? ⟨w.heap.size,1,none⟩=some (.slice x.num.A x.num.n x.num.c)∧W.cell? ⟨w.heap.size,2,none⟩=some (.bool x.den.b)∧W.cell? ⟨w.heap.size,3,none⟩=some (.slice x.den.A x.den.n x.den.c)∧W.cell? ⟨w.heap.size+1,0,none⟩=some (.bool y.num.b)∧W.cell? ⟨w.heap.size+1,1,none⟩=some (.slice y.num.A y.num.n y.num.c)∧W.cell? ⟨w.heap.size+1,2,none⟩=some (.bool y.den.b)∧W.cell? ⟨w.heap.size+1,3,none⟩=some (.slice y.den.A y.den.n y.den.c))
  (exact⟨(by(repeat (with_reducible refine cell_far ?_ arq));exact(HF1.out.go blq).get 0 rfl),(by(repeat (with_reducible refine cell_far ?_ arq));exact(HF1.out.go blq).get 1 rfl),(by(repeat (with_reducible refine cell_far ?_ arq));exact(HF1.out.go blq).get 2 rfl),(by(repeat (with_reducible refine cell_far ?_ arq));exact(HF1.out.go blq).get 3 rfl),(by(repeat (with_reducible refine cell_far ?_ arq));exact(HF1.out.go blq).get 4 rfl),(by(repeat (with_reducible refine cell_far ?_ arq));exact(HF1.out.go blq).get 5 rfl),(by(repeat (with_reducible refine cell_far ?_ arq));exact(HF1.out.go blq).get 6 rfl),(by(repeat (with_reducible refine cell_far ?_ arq));exact(HF1.out.go blq).get 7 rfl)⟩)
  (first
   | (go_at_call_of 80 (Value.agg #[Value.bool x.num.b,Value.slice x.num.A x.num.n x.num.c]);go_must (with_reducible refine(c_Mul (P:=Gp P w.heap.size 3) (HX.out.hn.below blq) (HY.out.hd.below blq) (by have:=HK.out;omega) (by have:=HK.out;omega) (gap_fresh HP.out blq arq)).mono ?_);rintro e w2 ⟨x1,rfl,hx1,hb2⟩;have HX1:=Lib.hid hx1;clear hx1;have HF2:=fgo w2 HF1;have hz2:=HF2.out.1;obtain⟨hl2_0,hl2_1,hl2_2⟩:=lt3 hz2;obtain⟨_,_,_,_,-⟩:=HF2.out.alls 8 4;obtain⟨_,_,_,_,-⟩:=HF2.out.falls 8 4)
   | (go_at_call_of 80 (Value.agg #[Value.bool y.num.b,Value.slice y.num.A y.num.n y.num.c]);go_must (with_reducible refine(c_Mul (P:=Gp P w.heap.size 3) (HY.out.hn.below blq) (HX.out.hd.below blq) (by have:=HK.out;omega) (by have:=HK.out;omega) (gap_fresh HP.out blq arq)).mono ?_);rintro e w3 ⟨x2,rfl,hx2,hb3⟩;have HX2:=Lib.hid hx2;clear hx2;have HF3:=fgo w3 HF1;have hz3:=HF3.out.1;obtain⟨hl3_0,hl3_1,hl3_2⟩:=lt3 hz3;obtain⟨_,_,_,_,-⟩:=HF3.out.alls 8 4;obtain⟨_,_,_,_,-⟩:=HF3.out.falls 8 4)
   | (go_at_call 109;go_must (with_reducible refine(c_Add (P:=Gp P w.heap.size 3) (HX1.out.below blq) (HX2.out.below blq) (by have:=HK.out;omega) (gap_fresh HP.out blq arq)).mono ?_);rintro e w4 ⟨x3,rfl,hx3,hb4⟩;have HX3:=Lib.hid hx3;clear hx3;have HF4:=fgo w4 HF1;have hz4:=HF4.out.1;obtain⟨hl4_0,hl4_1,hl4_2⟩:=lt3 hz4;obtain⟨_,_,_,_,-⟩:=HF4.out.alls 8 4;obtain⟨_,_,_,_,-⟩:=HF4.out.falls 8 4)
   | (go_at_call_of 80 (Value.agg #[Value.bool x.den.b,Value.slice x.den.A x.den.n x.den.c]);go_must (with_reducible refine(c_Mul (P:=Gp P w.heap.size 3) (HX.out.hd.below blq) (HY.out.hd.below blq) (by have:=HK.out;omega) (by have:=HK.out;omega) (gap_fresh HP.out blq arq)).mono ?_);rintro e w5 ⟨x4,rfl,hx4,hb5⟩;have HX4:=Lib.hid hx4;clear hx4;have HF5:=fgo w5 HF1;have hz5:=HF5.out.1;obtain⟨hl5_0,hl5_1,hl5_2⟩:=lt3 hz5;obtain⟨_,_,_,_,-⟩:=HF5.out.alls 8 4;obtain⟨_,_,_,_,-⟩:=HF5.out.falls 8 4)
   | (go_at_call 58;go_must (with_reducible refine(c_New (P:=Gp P w.heap.size 3) (HX3.out.below blq) ((HX4.out.wide (Nat.le_succ _)).below blq) HN.out (by have:=HK.out;omega) (gap_fresh HP.out blq arq)).mono ?_);rintro e w6 ⟨r,rfl,hr,hb6⟩;have HR:=Lib.hid hr;clear hr;have HF6:=fgo w6 HF1;have hz6:=HF6.out.1;obtain⟨hl6_0,hl6_1,hl6_2⟩:=lt3 hz6;obtain⟨q6_8,q6_9,q6_10,q6_11,-⟩:=HF6.out.alls 8 4;obtain⟨_,_,_,_,-⟩:=HF6.out.falls 8 4))
 go_wp2_with fail
 refine bodyPost_ret (v:=.agg #[.bool r.num.b,.slice r.num.A r.num.n r.num.c,.bool r.den.b,.slice r.den.A r.den.n r.den.c]) (by simp [results,Tryz.results70,go_sem,q6_8,q6_9,q6_10,q6_11]) rfl ⟨r,rfl,IsF.ungap (s:=w.heap.size) (n:=3) ?_,blq⟩
 rw [←add_divInt];exact((((HR.out.put _ arq arq).put _ arq arq).put _ arq arq).put _ arq arq)
theorem c_FAdd{x y:FV}{q p:Rat}(hx:IsF P K w x q)(hy:IsF P K w y p)(hK:K≤100000000)(hP:∀k,w.heap.size≤k→P k) :
 Calls Tryz.prog 70 #[.agg #[.bool x.num.b,.slice x.num.A x.num.n x.num.c,.bool x.den.b,.slice x.den.A x.den.n x.den.c],.agg #[.bool y.num.b,.slice y.num.A y.num.n y.num.c,.bool y.den.b,.slice y.den.A y.den.n y.den.c]] w fun e w'=>∃r:FV,e=.returned (.agg #[.bool r.num.b,.slice r.num.A r.num.n r.num.c,.bool r.den.b,.slice r.den.A r.den.n r.den.c])∧IsF P (K+K+2) w' r (q+p)∧Below w.heap.size w w':=by
 by_cases ha:q.den=1
 · by_cases hb:p.den=1
   · exact c_FAdd_11 hx hy hK hP ha hb
   · exact c_FAdd_10 hx hy hK hP ha hb
 · exact c_FAdd_0 hx hy hK hP ha
theorem c_FDiv{x y:FV}{q p:Rat}(hx:IsF P K w x q)(hy:IsF P K w y p)(hp:p≠0)(hK:K≤100000000)(hP:∀k,w.heap.size≤k→P k) :
 Calls Tryz.prog 76 #[.agg #[.bool x.num.b,.slice x.num.A x.num.n x.num.c,.bool x.den.b,.slice x.den.A x.den.n x.den.c],.agg #[.bool y.num.b,.slice y.num.A y.num.n y.num.c,.bool y.den.b,.slice y.den.A y.den.n y.den.c]] w fun e w'=>∃r:FV,e=.returned (.agg #[.bool r.num.b,.slice r.num.A r.num.n r.num.c,.bool r.den.b,.slice r.den.A r.den.n r.den.c])∧IsF P (K+K+1) w' r (q/p)∧Below w.heap.size w w':=by
 have HX:=Lib.hid (hx.gap 3)
 have HY:=Lib.hid (hy.gap 3)
 have HP:=Lib.hid hP
 have HK:=Lib.hid hK
 clear hx hy hP hK
 have HN:=Lib.hid (show((q.den:Int)*p.num)≠0 from Int.mul_ne_zero (by have:=den_pos q;omega) (fun h=>hp (Rat.num_eq_zero.1 h)))
 clear hp
 have HF0:=Lib.hid (show Fr [(w.heap.size,0,(.bool x.num.b)),(w.heap.size,1,(.slice x.num.A x.num.n x.num.c)),(w.heap.size,2,(.bool x.den.b)),(w.heap.size,3,(.slice x.den.A x.den.n x.den.c)),(w.heap.size+1,0,(.bool y.num.b)),(w.heap.size+1,1,(.slice y.num.A y.num.n y.num.c)),(w.heap.size+1,2,(.bool y.den.b)),(w.heap.size+1,3,(.slice y.den.A y.den.n y.den.c)),(w.heap.size+1+1,0,(.bool false)),(w.heap.size+1+1,1,(.slice none 0 0)),(w.heap.size+1+1,2,(.bool false)),(w.heap.size+1+1,3,(.slice none 0 0))] (w.heap.size+1+1+1) (((w.alloc (.cells #[.bool x.num.b,.slice x.num.A x.num.n x.num.c,.bool x.den.b,.slice x.den.A x.den.n x.den.c] 52)).alloc (.cells #[.bool y.num.b,.slice y.num.A y.num.n y.num.c,.bool y.den.b,.slice y.den.A y.den.n y.den.c] 52)).alloc (.cells #[.bool false,.slice none 0 0,.bool false,.slice none 0 0] 52))from frq)
 go_enter Tryz.func76,Tryz.ntmps76
 go_wp2_with fail
 go_region_held3 (fun W=>W.cell? ⟨w.heap.size,0,none⟩=some (.bool x.num.b)∧W.cell? ⟨w.heap.size,1,none⟩=some (.slice x.num.A x.num.n x.num.c)∧W.cell? ⟨w.heap.size,2,none⟩=some (.bool x.den.b)∧W.cell? ⟨w.heap.size,3,none⟩=some (.slice x.den.A x.den.n x.den.c)∧W.cell? ⟨w.heap.size+1,0,none⟩=some (.bool y.num.b)∧W.cell? ⟨w.heap.size+1,1,none⟩=some (.slice y.num.A y.num.n y.num.c)∧W.cell? ⟨w.heap.size+1,2,none⟩=some (.bool y.den.b)∧W.cell? ⟨w.heap.size+1,3,none⟩=some (.slice y.den.A y.den.n y.den.c))
  (exact⟨(by(repeat (with_reducible refine cell_far ?_ arq));exact(HF0.out.go blq).get 0 rfl),(by(repeat (with_reducible refine cell_far ?_ arq));exact(HF0.out.go blq).get 1 rfl),(by(repeat (with_reducible refine cell_far ?_ arq));exact(HF0.out.go blq).get 2 rfl),(by(repeat (with_reducible refine cell_far ?_ arq));exact(HF0.out.go blq).get 3 rfl),(by(repeat (with_reducible refine cell_far ?_ arq));exact(HF0.out.go blq).get 4 rfl),(by(repeat (with_reducible refine cell_far ?_ arq));exact(HF0.out.go blq).get 5 rfl),(by(repeat (with_reducible refine cell_far ?_ arq));exact(HF0.out.go blq).get 6 rfl),(by(repeat (with_reducible refine cell_far ?_ arq));exact(HF0.out.go blq).get 7 rfl)⟩)
  (first
   | (go_at_call_of 80 (Value.agg #[Value.bool x.num.b,Value.slice x.num.A x.num.n x.num.c]);go_must (with_reducible refine(c_Mul (P:=Gp P w.heap.size 3) (HX.out.hn.below blq) (HY.out.hd.below blq) (by have:=HK.out;omega) (by have:=HK.out;omega) (gap_fresh HP.out blq arq)).mono ?_);rintro e w1 ⟨x1,rfl,hx1,hb1⟩;have HX1:=Lib.hid hx1;clear hx1;have HF1:=fgo w1 HF0;have hz1:=HF1.out.1;obtain⟨hl1_0,hl1_1,hl1_2⟩:=lt3 hz1;obtain⟨_,_,_,_,-⟩:=HF1.out.alls 8 4;obtain⟨_,_,_,_,-⟩:=HF1.out.falls 8 4)
   | (go_at_call_of 80 (Value.agg #[Value.bool x.den.b,Value.slice x.den.A x.den.n x.den.c]);go_must (with_reducible refine(c_Mul (P:=Gp P w.heap.size 3) (HX.out.hd.below blq) (HY.out.hn.below blq) (by have:=HK.out;omega) (by have:=HK.out;omega) (gap_fresh HP.out blq arq)).mono ?_);rintro e w2 ⟨x2,rfl,hx2,hb2⟩;have HX2:=Lib.hid hx2;clear hx2;have HF2:=fgo w2 HF0;have hz2:=HF2.out.1;obtain⟨hl2_0,hl2_1,hl2_2⟩:=lt3 hz2;obtain⟨_,_,_,_,-⟩:=HF2.out.alls 8 4;obtain⟨_,_,_,_,-⟩:=HF2.out.falls 8 4)
   | (go_at_call 58;go_must (with_reducible refine(c_New (P:=Gp P w.heap.size 3) (HX1.out.below blq) (HX2.out.below blq) HN.out (by have:=HK.out;omega) (gap_fresh HP.out blq arq)).mono ?_);rintro e w3 ⟨r,rfl,hr,hb3⟩;have HR:=Lib.hid hr;clear hr;have HF3:=fgo w3 HF0;have hz3:=HF3.out.1;obtain⟨hl3_0,hl3_1,hl3_2⟩:=lt3 hz3;obtain⟨q3_8,q3_9,q3_10,q3_11,-⟩:=HF3.out.alls 8 4;obtain⟨_,_,_,_,-⟩:=HF3.out.falls 8 4))
 go_wp2_with fail
 refine bodyPost_ret (v:=.agg #[.bool r.num.b,.slice r.num.A r.num.n r.num.c,.bool r.den.b,.slice r.den.A r.den.n r.den.c]) (by simp [results,Tryz.results76,go_sem,q3_8,q3_9,q3_10,q3_11]) rfl ⟨r,rfl,IsF.ungap (s:=w.heap.size) (n:=3) ?_,blq⟩
 rw [←div_divInt];exact((((HR.out.put _ arq arq).put _ arq arq).put _ arq arq).put _ arq arq)
theorem c_FSub{x y:FV}{q p:Rat}(hx:IsF P K w x q)(hy:IsF P K w y p)(hK:K≤100000000)(hP:∀k,w.heap.size≤k→P k) :
 Calls Tryz.prog 72 #[.agg #[.bool x.num.b,.slice x.num.A x.num.n x.num.c,.bool x.den.b,.slice x.den.A x.den.n x.den.c],.agg #[.bool y.num.b,.slice y.num.A y.num.n y.num.c,.bool y.den.b,.slice y.den.A y.den.n y.den.c]] w fun e w'=>∃r:FV,e=.returned (.agg #[.bool r.num.b,.slice r.num.A r.num.n r.num.c,.bool r.den.b,.slice r.den.A r.den.n r.den.c])∧IsF P (K+K+2) w' r (q-p)∧Below w.heap.size w w':=by
 have HX:=Lib.hid (hx.gap 3)
 have HY:=Lib.hid (hy.gap 3)
 have HP:=Lib.hid hP
 have HK:=Lib.hid hK
 clear hx hy hP hK
 have HF0:=Lib.hid (show Fr [(w.heap.size,0,(.bool x.num.b)),(w.heap.size,1,(.slice x.num.A x.num.n x.num.c)),(w.heap.size,2,(.bool x.den.b)),(w.heap.size,3,(.slice x.den.A x.den.n x.den.c)),(w.heap.size+1,0,(.bool y.num.b)),(w.heap.size+1,1,(.slice y.num.A y.num.n y.num.c)),(w.heap.size+1,2,(.bool y.den.b)),(w.heap.size+1,3,(.slice y.den.A y.den.n y.den.c)),(w.heap.size+1+1,0,(.bool false)),(w.heap.size+1+1,1,(.slice none 0 0)),(w.heap.size+1+1,2,(.bool false)),(w.heap.size+1+1,3,(.slice none 0 0))] (w.heap.size+1+1+1) (((w.alloc (.cells #[.bool x.num.b,.slice x.num.A x.num.n x.num.c,.bool x.den.b,.slice x.den.A x.den.n x.den.c] 52)).alloc (.cells #[.bool y.num.b,.slice y.num.A y.num.n y.num.c,.bool y.den.b,.slice y.den.A y.den.n y.den.c] 52)).alloc (.cells #[.bool false,.slice none 0 0,.bool false,.slice none 0 0] 52))from frq)
 go_enter Tryz.func72,Tryz.ntmps72
 go_wp2_with fail
 go_region_held3 (fun W=>W.cell? ⟨w.heap.size,0,none⟩=some (.bool x.num.b)∧W.cell? ⟨w.heap.size,1,none⟩=some (.slice x.num.A x.num.n x.num.c)∧W.cell? ⟨w.heap.size,2,none⟩=some (.bool x.den.b)∧W.cell? ⟨w.heap.size,3,none⟩=some (.slice x.den.A x.den.n x.den.c)∧W.cell? ⟨w.heap.size+1,0,none⟩=some (.bool y.num.b)∧W.cell? ⟨w.heap.size+1,1,none⟩=some (.slice y.num.A y.num.n y.num.c)∧W.cell? ⟨w.heap.size+1,2,none⟩=some (.bool y.den.b)∧W.cell? ⟨w.heap.size+1,3,none⟩=some (.slice y.den.A y.den.n y.den.c))
  (exact⟨(by(repeat (with_reducible refine cell_far ?_ arq));exact(HF0.out.go blq).get 0 rfl),(by(repeat (with_reducible refine cell_far ?_ arq));exact(HF0.out.go blq).get 1 rfl),(by(repeat (with_reducible refine cell_far ?_ arq));exact(HF0.out.go blq).get 2 rfl),(by(repeat (with_reducible refine cell_far ?_ arq));exact(HF0.out.go blq).get 3 rfl),(by(repeat (with_reducible refine cell_far ?_ arq));exact(HF0.out.go blq).get 4 rfl),(by(repeat (with_reducible refine cell_far ?_ arq));exact(HF0.out.go blq).get 5 rfl),(by(repeat (with_reducible refine cell_far ?_ arq));exact(HF0.out.go blq).get 6 rfl),(by(repeat (with_reducible refine cell_far ?_ arq));exact(HF0.out.go blq).get 7 rfl)⟩)
  (first
   | (go_at_call 50;go_must (with_reducible refine(c_FNeg (P:=Gp P w.heap.size 3) (HY.out.below blq) (by have:=HK.out;omega) (gap_fresh HP.out blq arq)).mono ?_);rintro e w1 ⟨y1,rfl,hy1,hb1⟩;have HY1:=Lib.hid hy1;clear hy1;have HF1:=fgo w1 HF0;have hz1:=HF1.out.1;obtain⟨hl1_0,hl1_1,hl1_2⟩:=lt3 hz1;obtain⟨_,_,_,_,-⟩:=HF1.out.alls 8 4;obtain⟨_,_,_,_,-⟩:=HF1.out.falls 8 4)
   | (go_at_call 70;go_must (with_reducible refine(c_FAdd (P:=Gp P w.heap.size 3) (HX.out.below blq) (HY1.out.below blq) HK.out (gap_fresh HP.out blq arq)).mono ?_);rintro e w2 ⟨r,rfl,hr,hb2⟩;have HR:=Lib.hid hr;clear hr;have HF2:=fgo w2 HF0;have hz2:=HF2.out.1;obtain⟨hl2_0,hl2_1,hl2_2⟩:=lt3 hz2;obtain⟨q2_8,q2_9,q2_10,q2_11,-⟩:=HF2.out.alls 8 4;obtain⟨_,_,_,_,-⟩:=HF2.out.falls 8 4))
 go_wp2_with fail
 refine bodyPost_ret (v:=.agg #[.bool r.num.b,.slice r.num.A r.num.n r.num.c,.bool r.den.b,.slice r.den.A r.den.n r.den.c]) (by simp [results,Tryz.results72,go_sem,q2_8,q2_9,q2_10,q2_11]) rfl ⟨r,rfl,IsF.ungap (s:=w.heap.size) (n:=3) ?_,blq⟩
 rw [Rat.sub_eq_add_neg];exact((((HR.out.put _ arq arq).put _ arq arq).put _ arq arq).put _ arq arq)
theorem c_FCmp{x y:FV}{q p:Rat}(hx:IsF P K w x q)(hy:IsF P K w y p)(hK:K≤100000000)(hP:∀k,w.heap.size≤k→P k) :
 Calls Tryz.prog 46 #[.agg #[.bool x.num.b,.slice x.num.A x.num.n x.num.c,.bool x.den.b,.slice x.den.A x.den.n x.den.c],.agg #[.bool y.num.b,.slice y.num.A y.num.n y.num.c,.bool y.den.b,.slice y.den.A y.den.n y.den.c]] w fun e w'=>e=.returned (.int .i64 (q-p).num.sign)∧Below w.heap.size w w':=by
 have HX:=Lib.hid (hx.gap 2)
 have HY:=Lib.hid (hy.gap 2)
 have HP:=Lib.hid hP
 have HK:=Lib.hid hK
 clear hx hy hP hK
 have HF0:=Lib.hid (show Fr [(w.heap.size,0,(.bool x.num.b)),(w.heap.size,1,(.slice x.num.A x.num.n x.num.c)),(w.heap.size,2,(.bool x.den.b)),(w.heap.size,3,(.slice x.den.A x.den.n x.den.c)),(w.heap.size+1,0,(.bool y.num.b)),(w.heap.size+1,1,(.slice y.num.A y.num.n y.num.c)),(w.heap.size+1,2,(.bool y.den.b)),(w.heap.size+1,3,(.slice y.den.A y.den.n y.den.c))] (w.heap.size+1+1) ((w.alloc (.cells #[.bool x.num.b,.slice x.num.A x.num.n x.num.c,.bool x.den.b,.slice x.den.A x.den.n x.den.c] 52)).alloc (.cells #[.bool y.num.b,.slice y.num.A y.num.n y.num.c,.bool y.den.b,.slice y.den.A y.den.n y.den.c] 52))from frq)
 go_enter Tryz.func46,Tryz.ntmps46
 go_wp2_with fail
 refine(c_FSub (P:=Gp P w.heap.size 2) (HX.out.below blq) (HY.out.below blq) HK.out (gap_fresh HP.out blq arq)).mono ?_
 rintro e w1 ⟨r,rfl,hr,hb1⟩
 have HR:=Lib.hid hr;clear hr
 have HF1:=fgo w1 HF0
 have hz1:=HF1.out.1
 obtain⟨hl1_0,hl1_1⟩:=lt2 hz1
 obtain⟨_,_,_,_,_,_,_,_,-⟩:=HF1.out.alls 0 8
 go_wp2_with fail
 refine(c_FSign (HR.out.below blq)).mono ?_
 rintro e w2 ⟨rfl,hb2⟩
 have HF2:=fgo w2 HF1
 have hz2:=HF2.out.1
 obtain⟨hl2_0,hl2_1⟩:=lt2 hz2
 obtain⟨_,_,_,_,_,_,_,_,-⟩:=HF2.out.alls 0 8
 go_wp2_with fail
 go_ret
 exact⟨rfl,blq⟩
end
end Go.Proofs.YtpdghgfbfmaplaaGreatDoor.Wh
end
