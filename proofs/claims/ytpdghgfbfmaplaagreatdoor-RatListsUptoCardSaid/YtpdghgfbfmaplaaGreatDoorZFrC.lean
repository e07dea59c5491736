/- Lemmas for RatLists. -/
import Derived.Test.YtpdghgfbfmaplaaGreatDoorZFrB
set_option maxRecDepth 100000
set_option maxHeartbeats 8000000
section
set_option linter.unusedVariables false
set_option linter.unusedSimpArgs false
namespace Go.Proofs.YtpdghgfbfmaplaaGreatDoor.Wh
open Go.RowKit Go.Proofs.YtpdghgfbfmaplaaGreatDoorW.PrintWords Go.Proofs.YtpdghgfbfmaplaaGreatDoor.Num Go.Proofs.YtpdghgfbfmaplaaGreatDoor.Dec
theorem new_r2{P:Nat→Prop}{K:Nat}{w wc:World}{Q:Exit→Act→World→Prop}{x y:WV}{z u:Int}{s0 s1 s4 s5 s6 s7 s8 s9 s10 s11 s12 s13 s14 s15 s16 s17 s18 s19 s20 s21 s22 s23 s24 s25 s26 s27 s28 s29 s30 s31 s32 s33:Value}
 (hf:Fr [(w.heap.size,0,(.bool x.b)),(w.heap.size,1,(.slice x.A x.n x.c)),(w.heap.size+1,0,(.bool y.b)),(w.heap.size+1,1,(.slice y.A y.n y.c)),(w.heap.size+1+1,0,(.bool false)),(w.heap.size+1+1,1,(.slice none 0 0)),(w.heap.size+1+1,2,(.bool false)),(w.heap.size+1+1,3,(.slice none 0 0))] (w.heap.size+1+1+1) wc) (hb:Below w.heap.size w wc) (hX:IsW (Gp P w.heap.size 3) K wc x z) (hY:IsW (Gp P w.heap.size 3) K wc y u) (hK:K≤20000000000000) (hP:∀k,w.heap.size≤k→P k)
 (hQ:∀(x1 y1:WV) (t9 t10 t11 t12:Value) (W:World),IsW (Gp P w.heap.size 3) K W x1 (-z)→IsW (Gp P w.heap.size 3) K W y1 (-u)→Fr [(w.heap.size,0,(.bool x1.b)),(w.heap.size,1,(.slice x1.A x1.n x1.c)),(w.heap.size+1,0,(.bool y1.b)),(w.heap.size+1,1,(.slice y1.A y1.n y1.c)),(w.heap.size+1+1,0,(.bool false)),(w.heap.size+1+1,1,(.slice none 0 0)),(w.heap.size+1+1,2,(.bool false)),(w.heap.size+1+1,3,(.slice none 0 0))] (w.heap.size+1+1+1) W→Below w.heap.size w W→Q .normal ⟨#[s0,s1,.pointer (some ⟨w.heap.size,0,none⟩),.pointer (some ⟨w.heap.size+1,0,none⟩),s4,s5,s6,s7,s8,t9,t10,t11,t12,s13,s14,s15,s16,s17,s18,s19,s20,s21,s22,s23,s24,s25,s26,s27,s28,s29,s30,s31,s32,s33],[]⟩ W) :
 Code.wp Tryz.prog ((Tryz.f58.body.bind (regOf 2)).getD .skip) Q ⟨#[s0,s1,.pointer (some ⟨w.heap.size,0,none⟩),.pointer (some ⟨w.heap.size+1,0,none⟩),s4,s5,s6,s7,s8,s9,s10,s11,s12,s13,s14,s15,s16,s17,s18,s19,s20,s21,s22,s23,s24,s25,s26,s27,s28,s29,s30,s31,s32,s33],[]⟩ wc:=by
 have HQ:=Lib.hid hQ
 have HX:=Lib.hid hX
 have HY:=Lib.hid hY
 have HF:=Lib.hid hf
 have HB:=Lib.hid hb
 have HP:=Lib.hid hP
 have hsz:w.heap.size+1+1+1≤wc.heap.size:=hf.1
 have q0_0:=hf.get 0 rfl
 have q0_1:=hf.get 1 rfl
 have q0_2:=hf.get 2 rfl
 have q0_3:=hf.get 3 rfl
 have q0_4:=hf.get 4 rfl
 have q0_5:=hf.get 5 rfl
 have q0_6:=hf.get 6 rfl
 have q0_7:=hf.get 7 rfl
 have fq0_0:=hf.frz 0 rfl
 have fq0_1:=hf.frz 1 rfl
 have fq0_2:=hf.frz 2 rfl
 have fq0_3:=hf.frz 3 rfl
 have fq0_4:=hf.frz 4 rfl
 have fq0_5:=hf.frz 5 rfl
 have fq0_6:=hf.frz 6 rfl
 have fq0_7:=hf.frz 7 rfl
 clear hQ hX hY hf hb hP
 conv=>arg 2;whnf
 go_region_with (first
  | (go_at_call_of 93 (Value.agg #[Value.bool x.b,Value.slice x.A x.n x.c]);go_must (with_reducible refine(c_Neg (P:=Gp P w.heap.size 3) (HX.out.below blq) hK (gap_fresh HP.out (bl_call HB.out (show Below wc.heap.size wc _ from blq)) (Nat.le_trans hsz (Below.size (show Below wc.heap.size wc _ from blq))))).mono ?_);rintro e w1 ⟨xa,rfl,hxa,hb1⟩;have HXA:=Lib.hid hxa;clear hxa;have HF1:=Lib.hid (show Fr [(w.heap.size,0,(.bool x.b)),(w.heap.size,1,(.slice x.A x.n x.c)),(w.heap.size+1,0,(.bool y.b)),(w.heap.size+1,1,(.slice y.A y.n y.c)),(w.heap.size+1+1,0,(.bool false)),(w.heap.size+1+1,1,(.slice none 0 0)),(w.heap.size+1+1,2,(.bool false)),(w.heap.size+1+1,3,(.slice none 0 0))] (w.heap.size+1+1+1) w1 from HF.out.below (show Below wc.heap.size wc w1 from blq) HF.out.1);obtain⟨_,_,_,_,_,_,_,_,-⟩:=HF1.out.alls 0 8;obtain⟨fq1_0,fq1_1,fq1_2,fq1_3,fq1_4,fq1_5,fq1_6,fq1_7,-⟩:=HF1.out.falls 0 8;have hz1:w.heap.size+1+1+1≤w1.heap.size:=HF1.out.1)
  | (go_at_call_of 93 (Value.agg #[Value.bool y.b,Value.slice y.A y.n y.c]);go_must (with_reducible refine(c_Neg (P:=Gp P w.heap.size 3) (HY.out.below blq) hK (gap_fresh HP.out (bl_call HB.out (show Below wc.heap.size wc _ from blq)) (Nat.le_trans hsz (Below.size (show Below wc.heap.size wc _ from blq))))).mono ?_);rintro e w2 ⟨ya,rfl,hya,hb2⟩;have HYA:=Lib.hid hya;clear hya;have HF2:=Lib.hid (show Fr [(w.heap.size,0,(.bool x.b)),(w.heap.size,1,(.slice x.A x.n x.c)),(w.heap.size+1,0,(.bool y.b)),(w.heap.size+1,1,(.slice y.A y.n y.c)),(w.heap.size+1+1,0,(.bool false)),(w.heap.size+1+1,1,(.slice none 0 0)),(w.heap.size+1+1,2,(.bool false)),(w.heap.size+1+1,3,(.slice none 0 0))] (w.heap.size+1+1+1) w2 from HF.out.below (show Below wc.heap.size wc w2 from blq) HF.out.1);obtain⟨_,_,_,_,_,_,_,_,-⟩:=HF2.out.alls 0 8;obtain⟨fq2_0,fq2_1,fq2_2,fq2_3,fq2_4,fq2_5,fq2_6,fq2_7,-⟩:=HF2.out.falls 0 8;have hz2:w.heap.size+1+1+1≤w2.heap.size:=HF2.out.1))
 all_goals (refine HQ.out xa ya _ _ _ _ _ ?_ ?_ ?_ ?_)
 all_goals first
  | exact((((HXA.out.below hb2).put _ arq arq).put _ arq arq).put _ arq arq).put _ arq arq
  | exact(((HYA.out.put _ arq arq).put _ arq arq).put _ arq arq).put _ arq arq
  | exact((((HF2.out.sets w.heap.size 0 (.bool xa.b)).sets w.heap.size 1 (.slice xa.A xa.n xa.c)).sets (w.heap.size+1) 0 (.bool ya.b)).sets (w.heap.size+1) 1 (.slice ya.A ya.n ya.c)).eq (by simp [ne2,ne3,en2,en3])
  | (have HB2:=bl_call HB.out (show Below wc.heap.size wc w2 from blq);exact blq)
section
variable {P:Nat→Prop} {K:Nat} {w:World}
theorem c_New{x y:WV}{z u:Int}(hx:IsW P K w x z)(hy:IsW P K w y u)(hu:u≠0)(hK:K≤1000000000)(hP:∀k,w.heap.size≤k→P k) :
 Calls Tryz.prog 58 #[.agg #[.bool x.b,.slice x.A x.n x.c],.agg #[.bool y.b,.slice y.A y.n y.c]] w fun e w'=>∃r:FV,e=.returned (.agg #[.bool r.num.b,.slice r.num.A r.num.n r.num.c,.bool r.den.b,.slice r.den.A r.den.n r.den.c])∧IsF P (K+1) w' r (Rat.divInt z u)∧Below w.heap.size w w':=by
 have HX:=Lib.hid (hx.gap 3)
 have HY:=Lib.hid (hy.gap 3)
 have HP:=Lib.hid hP
 clear hx hy hP
 have HF0:=Lib.hid (show Fr [(w.heap.size,0,(.bool x.b)),(w.heap.size,1,(.slice x.A x.n x.c)),(w.heap.size+1,0,(.bool y.b)),(w.heap.size+1,1,(.slice y.A y.n y.c)),(w.heap.size+1+1,0,(.bool false)),(w.heap.size+1+1,1,(.slice none 0 0)),(w.heap.size+1+1,2,(.bool false)),(w.heap.size+1+1,3,(.slice none 0 0))] (w.heap.size+1+1+1) (((w.alloc (.cells #[.bool x.b,.slice x.A x.n x.c] 50)).alloc (.cells #[.bool y.b,.slice y.A y.n y.c] 50)).alloc (.cells #[.bool false,.slice none 0 0,.bool false,.slice none 0 0] 52))from frq)
 go_enter Tryz.func58,Tryz.ntmps58
 go_wp2_with fail
 refine(c_Sign (P:=Gp P w.heap.size 3) (HY.out.below blq)).mono ?_
 rintro e w1 ⟨rfl,hb1⟩
 have HF1:=fgo w1 HF0
 have hz1:=HF1.out.1
 obtain⟨q1_0,q1_1,q1_2,q1_3,q1_4,q1_5,q1_6,q1_7,-⟩:=HF1.out.alls 0 8
 obtain⟨fq1_0,fq1_1,fq1_2,fq1_3,fq1_4,fq1_5,fq1_6,fq1_7,-⟩:=HF1.out.falls 0 8
 have hlw1_0:w.heap.size<w1.heap.size:=by omega
 have hlw1_1:w.heap.size+1<w1.heap.size:=by omega
 have hlw1_2:w.heap.size+1+1<w1.heap.size:=by omega
 by_cases hneg:u<0
 · rw [Int.sign_eq_neg_one_of_neg hneg];go_upto_region 2 with fail
   refine new_r2 (P:=P) (K:=K) (w:=w) (x:=x) (y:=y) (z:=z) (u:=u) HF1.out blq (HX.out.below blq) (HY.out.below blq) (by omega) HP.out ?_;intro x1 y1 t9 t10 t11 t12 w2 hx1 hy1 hf2 hb2;have HXC:=Lib.hid hx1;have HYC:=Lib.hid hy1;have HF2:=Lib.hid hf2;have HBC:=Lib.hid hb2;have HRQ:=Lib.hid (divInt_neg (z:=z) (u:=u));have hup:0< -u:=by omega
   clear hx1 hy1 hf2 hb1 q1_0 fq1_0 q1_1 fq1_1 q1_2 fq1_2 q1_3 fq1_3 q1_4 fq1_4 q1_5 fq1_5 q1_6 fq1_6 q1_7 fq1_7 hlw1_0 hlw1_1 hlw1_2;have hz2:=HF2.out.1;obtain⟨q2_0,q2_1,q2_2,q2_3,q2_4,q2_5,q2_6,q2_7,-⟩:=HF2.out.alls 0 8;obtain⟨fq2_0,fq2_1,fq2_2,fq2_3,fq2_4,fq2_5,fq2_6,fq2_7,-⟩:=HF2.out.falls 0 8;have hlw2_0:w.heap.size<w2.heap.size:=by omega
   have hlw2_1:w.heap.size+1<w2.heap.size:=by omega
   have hlw2_2:w.heap.size+1+1<w2.heap.size:=by omega
   go_wp2_with fail
   refine(c_Gcd (P:=Gp P w.heap.size 3) (K:=K) HXC.out HYC.out (by omega) (gap_fresh HP.out HBC.out hz2)).mono ?_;rintro e w3 ⟨d,rfl,hd,hb3⟩;have HDV:=Lib.hid hd;clear hd;have HF3:=Lib.hid (show Fr _ _ w3 from HF2.out.go hb3);have hz3:=HF3.out.1;obtain⟨q3_0,q3_1,q3_2,q3_3,q3_4,q3_5,q3_6,q3_7,-⟩:=HF3.out.alls 0 8;obtain⟨fq3_0,fq3_1,fq3_2,fq3_3,fq3_4,fq3_5,fq3_6,fq3_7,-⟩:=HF3.out.falls 0 8;have hlw3_0:w.heap.size<w3.heap.size:=by omega
   have hlw3_1:w.heap.size+1<w3.heap.size:=by omega
   have hlw3_2:w.heap.size+1+1<w3.heap.size:=by omega
   have HB3:=Lib.hid (bl_call HBC.out hb3);have HX3:=Lib.hid (HXC.out.below hb3);have HY3:=Lib.hid (HYC.out.below hb3);clear hb2 q2_0 fq2_0 q2_1 fq2_1 q2_2 fq2_2 q2_3 fq2_3 q2_4 fq2_4 q2_5 fq2_5 q2_6 fq2_6 q2_7 fq2_7;have HDP:=Lib.hid (divInt_pos (z:= -z) hup);have HGL:=Lib.hid (gcd_le (z:= -z) (u:= -u) (by omega));have hgp:0<Int.gcd (-z) (-u):=Int.gcd_pos_of_ne_zero_right _ (by omega);have hgd:=Lib.hid (And.intro (Int.gcd_dvd_left (-z) (-u)) (Int.gcd_dvd_right (-z) (-u)));generalize hgg:Int.gcd (-z) (-u)=g at *
   have HGG:=Lib.hid hgg;clear hgg;go_wp2_with fail
   refine(c_One (P:=Gp P w.heap.size 3) (HDV.out.below (bl_alloc (Below.refl _ _) _))).mono ?_;rintro e w4 ⟨rfl,hb4⟩;have HB34:=Lib.hid (show Below w3.heap.size w3 w4 from blq);have HF4:=Lib.hid (show Fr [(w.heap.size,0,(.bool x1.b)),(w.heap.size,1,(.slice x1.A x1.n x1.c)),(w.heap.size+1,0,(.bool y1.b)),(w.heap.size+1,1,(.slice y1.A y1.n y1.c)),(w.heap.size+1+1,0,(.bool false)),(w.heap.size+1+1,1,(.slice none 0 0)),(w.heap.size+1+1,2,(.bool false)),(w.heap.size+1+1,3,(.slice none 0 0))] (w.heap.size+1+1+1) w4 from HF3.out.go HB34.out);have hz4:=HF4.out.1;obtain⟨q4_0,q4_1,q4_2,q4_3,q4_4,q4_5,q4_6,q4_7,-⟩:=HF4.out.alls 0 8;obtain⟨fq4_0,fq4_1,fq4_2,fq4_3,fq4_4,fq4_5,fq4_6,fq4_7,-⟩:=HF4.out.falls 0 8;have hlw4_0:w.heap.size<w4.heap.size:=by omega
   have hlw4_1:w.heap.size+1<w4.heap.size:=by omega
   have hlw4_2:w.heap.size+1+1<w4.heap.size:=by omega
   have HD4:=Lib.hid (show Fr [(w3.heap.size,0,.bool d.b),(w3.heap.size,1,.slice d.A d.n d.c)] (w3.heap.size+1) w4 from(Fr.lit2 rfl).go hb4);have d4_0:=HD4.out.get 0 rfl;have d4_1:=HD4.out.get 1 rfl;have hd4:w3.heap.size<w4.heap.size:=HD4.out.1;have HB4:=Lib.hid (bl_call HB3.out HB34.out);have HX4:=Lib.hid (HX3.out.below HB34.out);have HY4:=Lib.hid (HY3.out.below HB34.out);have HD4V:=Lib.hid (HDV.out.below HB34.out);clear hb3 hb4 q3_0 fq3_0 q3_1 fq3_1 q3_2 fq3_2 q3_3 fq3_3 q3_4 fq3_4 q3_5 fq3_5 q3_6 fq3_6 q3_7 fq3_7;by_cases hg1:g=1
   · rw [decide_eq_true (show((g:Nat):Int)=1 by omega)];have HONE:=Lib.hid hg1;clear hg1;go_wp2_with fail
     refine bodyPost_ret (v:=.agg #[.bool (FV.mk x1 y1).num.b,.slice (FV.mk x1 y1).num.A (FV.mk x1 y1).num.n (FV.mk x1 y1).num.c,.bool (FV.mk x1 y1).den.b,.slice (FV.mk x1 y1).den.A (FV.mk x1 y1).den.n (FV.mk x1 y1).den.c]) (by simp [results,Tryz.results58,go_sem,q4_4,q4_5,q4_6,q4_7]) rfl ⟨⟨x1,y1⟩,rfl,IsF.ungap (s:=w.heap.size) (n:=3) ⟨?_,?_⟩,?_⟩
     · have h:=HDP.out.1;rw [HONE.out,Int.natCast_one,Int.ediv_one,HRQ.out]at h;rw [h];exact(((((HX4.out.wide (Nat.le_succ K)).put _ arq arq).put _ arq arq).put _ arq arq).put _ arq arq)
     · have h:=HDP.out.2;rw [HONE.out,Int.natCast_one,Int.ediv_one,HRQ.out]at h;rw [h];exact(((((HY4.out.wide (Nat.le_succ K)).put _ arq arq).put _ arq arq).put _ arq arq).put _ arq arq)
     · have hb9:=HB4.out;exact blq
   · rw [decide_eq_false (show ¬((g:Nat):Int)=1 by omega)];clear hg1;go_wp2_with fail
     refine(c_Div (P:=Gp P w.heap.size 3) (K:=K) HX4.out HD4V.out (by omega) (gap_fresh HP.out HB4.out hz4) (by omega)).mono ?_;rintro e w5 ⟨n1,r1,rfl,hn1,hr1,hb5⟩;have HN5:=Lib.hid hn1;clear hn1 hr1;have HF5:=Lib.hid (show Fr _ _ w5 from HF4.out.go hb5);have hz5:=HF5.out.1;obtain⟨q5_0,q5_1,q5_2,q5_3,q5_4,q5_5,q5_6,q5_7,-⟩:=HF5.out.alls 0 8;obtain⟨fq5_0,fq5_1,fq5_2,fq5_3,fq5_4,fq5_5,fq5_6,fq5_7,-⟩:=HF5.out.falls 0 8;have hlw5_0:w.heap.size<w5.heap.size:=by omega
     have hlw5_1:w.heap.size+1<w5.heap.size:=by omega
     have hlw5_2:w.heap.size+1+1<w5.heap.size:=by omega
     have HD5:=Lib.hid (show Fr [(w3.heap.size,0,.bool d.b),(w3.heap.size,1,.slice d.A d.n d.c)] (w3.heap.size+1) w5 from HD4.out.below hb5 hd4);have d5_0:=HD5.out.get 0 rfl;have d5_1:=HD5.out.get 1 rfl;have hd5:w3.heap.size<w5.heap.size:=HD5.out.1;have HB5:=Lib.hid (bl_call HB4.out hb5);have HY5:=Lib.hid (HY4.out.below hb5);have HD5V:=Lib.hid (HD4V.out.below hb5);clear hb5 q4_0 fq4_0 q4_1 fq4_1 q4_2 fq4_2 q4_3 fq4_3 q4_4 fq4_4 q4_5 fq4_5 q4_6 fq4_6 q4_7 fq4_7;go_wp2_with fail
     have HS5:=Lib.hid (((HF5.out.sets w.heap.size 0 (.bool n1.b)).sets w.heap.size 1 (.slice n1.A n1.n n1.c)).eq (L':=[(w.heap.size,0,(.bool n1.b)),(w.heap.size,1,(.slice n1.A n1.n n1.c)),(w.heap.size+1,0,(.bool y1.b)),(w.heap.size+1,1,(.slice y1.A y1.n y1.c)),(w.heap.size+1+1,0,(.bool false)),(w.heap.size+1+1,1,(.slice none 0 0)),(w.heap.size+1+1,2,(.bool false)),(w.heap.size+1+1,3,(.slice none 0 0))]) (by simp [ne2,ne3,en2,en3]));refine(c_Div (P:=Gp P w.heap.size 3) (K:=K) ((HY5.out.put _ arq arq).put _ arq arq) ((HD5V.out.put _ arq arq).put _ arq arq) (by omega) (gap_fresh HP.out (by have hb9:=HB5.out;exact blq) arq) (by omega)).mono ?_;rintro e w6 ⟨n2,r2,rfl,hn2,hr2,hb6⟩;have HN6:=Lib.hid hn2;clear hn2 hr2;have HF6:=Lib.hid (show Fr [(w.heap.size,0,(.bool n1.b)),(w.heap.size,1,(.slice n1.A n1.n n1.c)),(w.heap.size+1,0,(.bool y1.b)),(w.heap.size+1,1,(.slice y1.A y1.n y1.c)),(w.heap.size+1+1,0,(.bool false)),(w.heap.size+1+1,1,(.slice none 0 0)),(w.heap.size+1+1,2,(.bool false)),(w.heap.size+1+1,3,(.slice none 0 0))] (w.heap.size+1+1+1) w6 from HS5.out.go hb6);have hz6:=HF6.out.1;obtain⟨q6_0,q6_1,q6_2,q6_3,q6_4,q6_5,q6_6,q6_7,-⟩:=HF6.out.alls 0 8;obtain⟨fq6_0,fq6_1,fq6_2,fq6_3,fq6_4,fq6_5,fq6_6,fq6_7,-⟩:=HF6.out.falls 0 8;have hlw6_0:w.heap.size<w6.heap.size:=by omega
     have hlw6_1:w.heap.size+1<w6.heap.size:=by omega
     have hlw6_2:w.heap.size+1+1<w6.heap.size:=by omega
     have HB6:=Lib.hid (show Below w.heap.size w w6 from by have hb9:=HB5.out;exact blq);have HN56:=Lib.hid (((HN5.out.put _ arq arq).put _ arq arq).below hb6);clear hb6 q5_0 fq5_0 q5_1 fq5_1 q5_2 fq5_2 q5_3 fq5_3 q5_4 fq5_4 q5_5 fq5_5 q5_6 fq5_6 q5_7 fq5_7;go_wp2_with fail
     refine bodyPost_ret (v:=.agg #[.bool (FV.mk n1 n2).num.b,.slice (FV.mk n1 n2).num.A (FV.mk n1 n2).num.n (FV.mk n1 n2).num.c,.bool (FV.mk n1 n2).den.b,.slice (FV.mk n1 n2).den.A (FV.mk n1 n2).den.n (FV.mk n1 n2).den.c]) (by simp [results,Tryz.results58,go_sem,q6_4,q6_5,q6_6,q6_7]) rfl ⟨⟨n1,n2⟩,rfl,IsF.ungap (s:=w.heap.size) (n:=3) ⟨?_,?_⟩,?_⟩
     · have h:=HDP.out.1;rw [HRQ.out]at h;rw [h];exact((((((HN56.out.put _ arq arq).put _ arq arq).put _ arq arq).put _ arq arq).put _ arq arq).put _ arq arq)
     · have h:=HDP.out.2;rw [HRQ.out]at h;rw [h];exact((((((HN6.out.put _ arq arq).put _ arq arq).put _ arq arq).put _ arq arq).put _ arq arq).put _ arq arq)
     · have hb9:=HB6.out;exact blq
 · have hup:0<u:=by omega
   rw [Int.sign_eq_one_of_pos hup];obtain⟨w2,hw2⟩:∃w2:World,w2=w1:=⟨_,rfl⟩;subst hw2;have HXC:=Lib.hid (show IsW (Gp P w.heap.size 3) K w2 x z from HX.out.below blq);have HYC:=Lib.hid (show IsW (Gp P w.heap.size 3) K w2 y u from HY.out.below blq);have HF2:=Lib.hid HF1.out;have HBC:=Lib.hid (show Below w.heap.size w w2 from blq);have HRQ:=Lib.hid (Eq.refl (Rat.divInt z u));have hb2:=HBC.out;clear hb1 q1_0 fq1_0 q1_1 fq1_1 q1_2 fq1_2 q1_3 fq1_3 q1_4 fq1_4 q1_5 fq1_5 q1_6 fq1_6 q1_7 fq1_7 hlw1_0 hlw1_1 hlw1_2;have hz2:=HF2.out.1;obtain⟨q2_0,q2_1,q2_2,q2_3,q2_4,q2_5,q2_6,q2_7,-⟩:=HF2.out.alls 0 8;obtain⟨fq2_0,fq2_1,fq2_2,fq2_3,fq2_4,fq2_5,fq2_6,fq2_7,-⟩:=HF2.out.falls 0 8;have hlw2_0:w.heap.size<w2.heap.size:=by omega
   have hlw2_1:w.heap.size+1<w2.heap.size:=by omega
   have hlw2_2:w.heap.size+1+1<w2.heap.size:=by omega
   go_wp2_with fail
   refine(c_Gcd (P:=Gp P w.heap.size 3) (K:=K) HXC.out HYC.out (by omega) (gap_fresh HP.out HBC.out hz2)).mono ?_;rintro e w3 ⟨d,rfl,hd,hb3⟩;have HDV:=Lib.hid hd;clear hd;have HF3:=Lib.hid (show Fr _ _ w3 from HF2.out.go hb3);have hz3:=HF3.out.1;obtain⟨q3_0,q3_1,q3_2,q3_3,q3_4,q3_5,q3_6,q3_7,-⟩:=HF3.out.alls 0 8;obtain⟨fq3_0,fq3_1,fq3_2,fq3_3,fq3_4,fq3_5,fq3_6,fq3_7,-⟩:=HF3.out.falls 0 8;have hlw3_0:w.heap.size<w3.heap.size:=by omega
   have hlw3_1:w.heap.size+1<w3.heap.size:=by omega
   have hlw3_2:w.heap.size+1+1<w3.heap.size:=by omega
   have HB3:=Lib.hid (bl_call HBC.out hb3);have HX3:=Lib.hid (HXC.out.below hb3);have HY3:=Lib.hid (HYC.out.below hb3);clear hb2 q2_0 fq2_0 q2_1 fq2_1 q2_2 fq2_2 q2_3 fq2_3 q2_4 fq2_4 q2_5 fq2_5 q2_6 fq2_6 q2_7 fq2_7;have HDP:=Lib.hid (divInt_pos (z:=z) hup);have HGL:=Lib.hid (gcd_le (z:=z) (u:=u) (by omega));have hgp:0<Int.gcd (z) (u):=Int.gcd_pos_of_ne_zero_right _ (by omega);have hgd:=Lib.hid (And.intro (Int.gcd_dvd_left (z) (u)) (Int.gcd_dvd_right (z) (u)));generalize hgg:Int.gcd (z) (u)=g at *
   have HGG:=Lib.hid hgg;clear hgg;go_wp2_with fail
   refine(c_One (P:=Gp P w.heap.size 3) (HDV.out.below (bl_alloc (Below.refl _ _) _))).mono ?_;rintro e w4 ⟨rfl,hb4⟩;have HB34:=Lib.hid (show Below w3.heap.size w3 w4 from blq);have HF4:=Lib.hid (show Fr [(w.heap.size,0,(.bool x.b)),(w.heap.size,1,(.slice x.A x.n x.c)),(w.heap.size+1,0,(.bool y.b)),(w.heap.size+1,1,(.slice y.A y.n y.c)),(w.heap.size+1+1,0,(.bool false)),(w.heap.size+1+1,1,(.slice none 0 0)),(w.heap.size+1+1,2,(.bool false)),(w.heap.size+1+1,3,(.slice none 0 0))] (w.heap.size+1+1+1) w4 from HF3.out.go HB34.out);have hz4:=HF4.out.1;obtain⟨q4_0,q4_1,q4_2,q4_3,q4_4,q4_5,q4_6,q4_7,-⟩:=HF4.out.alls 0 8;obtain⟨fq4_0,fq4_1,fq4_2,fq4_3,fq4_4,fq4_5,fq4_6,fq4_7,-⟩:=HF4.out.falls 0 8;have hlw4_0:w.heap.size<w4.heap.size:=by omega
   have hlw4_1:w.heap.size+1<w4.heap.size:=by omega
   have hlw4_2:w.heap.size+1+1<w4.heap.size:=by omega
   have HD4:=Lib.hid (show Fr [(w3.heap.size,0,.bool d.b),(w3.heap.size,1,.slice d.A d.n d.c)] (w3.heap.size+1) w4 from(Fr.lit2 rfl).go hb4);have d4_0:=HD4.out.get 0 rfl;have d4_1:=HD4.out.get 1 rfl;have hd4:w3.heap.size<w4.heap.size:=HD4.out.1;have HB4:=Lib.hid (bl_call HB3.out HB34.out);have HX4:=Lib.hid (HX3.out.below HB34.out);have HY4:=Lib.hid (HY3.out.below HB34.out);have HD4V:=Lib.hid (HDV.out.below HB34.out);clear hb3 hb4 q3_0 fq3_0 q3_1 fq3_1 q3_2 fq3_2 q3_3 fq3_3 q3_4 fq3_4 q3_5 fq3_5 q3_6 fq3_6 q3_7 fq3_7;by_cases hg1:g=1
   · rw [decide_eq_true (show((g:Nat):Int)=1 by omega)];have HONE:=Lib.hid hg1;clear hg1;go_wp2_with fail
     refine bodyPost_ret (v:=.agg #[.bool (FV.mk x y).num.b,.slice (FV.mk x y).num.A (FV.mk x y).num.n (FV.mk x y).num.c,.bool (FV.mk x y).den.b,.slice (FV.mk x y).den.A (FV.mk x y).den.n (FV.mk x y).den.c]) (by simp [results,Tryz.results58,go_sem,q4_4,q4_5,q4_6,q4_7]) rfl ⟨⟨x,y⟩,rfl,IsF.ungap (s:=w.heap.size) (n:=3) ⟨?_,?_⟩,?_⟩
     · have h:=HDP.out.1;rw [HONE.out,Int.natCast_one,Int.ediv_one]at h;rw [h];exact(((((HX4.out.wide (Nat.le_succ K)).put _ arq arq).put _ arq arq).put _ arq arq).put _ arq arq)
     · have h:=HDP.out.2;rw [HONE.out,Int.natCast_one,Int.ediv_one]at h;rw [h];exact(((((HY4.out.wide (Nat.le_succ K)).put _ arq arq).put _ arq arq).put _ arq arq).put _ arq arq)
     · have hb9:=HB4.out;exact blq
   · rw [decide_eq_false (show ¬((g:Nat):Int)=1 by omega)];clear hg1;go_wp2_with fail
     refine(c_Div (P:=Gp P w.heap.size 3) (K:=K) HX4.out HD4V.out (by omega) (gap_fresh HP.out HB4.out hz4) (by omega)).mono ?_;rintro e w5 ⟨n1,r1,rfl,hn1,hr1,hb5⟩;have HN5:=Lib.hid hn1;clear hn1 hr1;have HF5:=Lib.hid (show Fr _ _ w5 from HF4.out.go hb5);have hz5:=HF5.out.1;obtain⟨q5_0,q5_1,q5_2,q5_3,q5_4,q5_5,q5_6,q5_7,-⟩:=HF5.out.alls 0 8;obtain⟨fq5_0,fq5_1,fq5_2,fq5_3,fq5_4,fq5_5,fq5_6,fq5_7,-⟩:=HF5.out.falls 0 8;have hlw5_0:w.heap.size<w5.heap.size:=by omega
     have hlw5_1:w.heap.size+1<w5.heap.size:=by omega
     have hlw5_2:w.heap.size+1+1<w5.heap.size:=by omega
     have HD5:=Lib.hid (show Fr [(w3.heap.size,0,.bool d.b),(w3.heap.size,1,.slice d.A d.n d.c)] (w3.heap.size+1) w5 from HD4.out.below hb5 hd4);have d5_0:=HD5.out.get 0 rfl;have d5_1:=HD5.out.get 1 rfl;have hd5:w3.heap.size<w5.heap.size:=HD5.out.1;have HB5:=Lib.hid (bl_call HB4.out hb5);have HY5:=Lib.hid (HY4.out.below hb5);have HD5V:=Lib.hid (HD4V.out.below hb5);clear hb5 q4_0 fq4_0 q4_1 fq4_1 q4_2 fq4_2 q4_3 fq4_3 q4_4 fq4_4 q4_5 fq4_5 q4_6 fq4_6 q4_7 fq4_7;go_wp2_with fail
     have HS5:=Lib.hid (((HF5.out.sets w.heap.size 0 (.bool n1.b)).sets w.heap.size 1 (.slice n1.A n1.n n1.c)).eq (L':=[(w.heap.size,0,(.bool n1.b)),(w.heap.size,1,(.slice n1.A n1.n n1.c)),(w.heap.size+1,0,(.bool y.b)),(w.heap.size+1,1,(.slice y.A y.n y.c)),(w.heap.size+1+1,0,(.bool false)),(w.heap.size+1+1,1,(.slice none 0 0)),(w.heap.size+1+1,2,(.bool false)),(w.heap.size+1+1,3,(.slice none 0 0))]) (by simp [ne2,ne3,en2,en3]));refine(c_Div (P:=Gp P w.heap.size 3) (K:=K) ((HY5.out.put _ arq arq).put _ arq arq) ((HD5V.out.put _ arq arq).put _ arq arq) (by omega) (gap_fresh HP.out (by have hb9:=HB5.out;exact blq) arq) (by omega)).mono ?_;rintro e w6 ⟨n2,r2,rfl,hn2,hr2,hb6⟩;have HN6:=Lib.hid hn2;clear hn2 hr2;have HF6:=Lib.hid (show Fr [(w.heap.size,0,(.bool n1.b)),(w.heap.size,1,(.slice n1.A n1.n n1.c)),(w.heap.size+1,0,(.bool y.b)),(w.heap.size+1,1,(.slice y.A y.n y.c)),(w.heap.size+1+1,0,(.bool false)),(w.heap.size+1+1,1,(.slice none 0 0)),(w.heap.size+1+1,2,(.bool false)),(w.heap.size+1+1,3,(.slice none 0 0))] (w.heap.size+1+1+1) w6 from HS5.out.go hb6);have hz6:=HF6.out.1;obtain⟨q6_0,q6_1,q6_2,q6_3,q6_4,q6_5,q6_6,q6_7,-⟩:=HF6.out.alls 0 8;obtain⟨fq6_0,fq6_1,fq6_2,fq6_3,fq6_4,fq6_5,fq6_6,fq6_7,-⟩:=HF6.out.falls 0 8;have hlw6_0:w.heap.size<w6.heap.size:=by omega
     have hlw6_1:w.heap.size+1<w6.heap.size:=by omega
     have hlw6_2:w.heap.size+1+1<w6.heap.size:=by omega
     have HB6:=Lib.hid (show Below w.heap.size w w6 from by have hb9:=HB5.out;exact blq);have HN56:=Lib.hid (((HN5.out.put _ arq arq).put _ arq arq).below hb6);clear hb6 q5_0 fq5_0 q5_1 fq5_1 q5_2 fq5_2 q5_3 fq5_3 q5_4 fq5_4 q5_5 fq5_5 q5_6 fq5_6 q5_7 fq5_7;go_wp2_with fail
     refine bodyPost_ret (v:=.agg #[.bool (FV.mk n1 n2).num.b,.slice (FV.mk n1 n2).num.A (FV.mk n1 n2).num.n (FV.mk n1 n2).num.c,.bool (FV.mk n1 n2).den.b,.slice (FV.mk n1 n2).den.A (FV.mk n1 n2).den.n (FV.mk n1 n2).den.c]) (by simp [results,Tryz.results58,go_sem,q6_4,q6_5,q6_6,q6_7]) rfl ⟨⟨n1,n2⟩,rfl,IsF.ungap (s:=w.heap.size) (n:=3) ⟨?_,?_⟩,?_⟩
     · have h:=HDP.out.1;skip
       rw [h];exact((((((HN56.out.put _ arq arq).put _ arq arq).put _ arq arq).put _ arq arq).put _ arq arq).put _ arq arq)
     · have h:=HDP.out.2;skip
       rw [h];exact((((((HN6.out.put _ arq arq).put _ arq arq).put _ arq arq).put _ arq arq).put _ arq arq).put _ arq arq)
     · have hb9:=HB6.out;exact blq
end
end Go.Proofs.YtpdghgfbfmaplaaGreatDoor.Wh
end
