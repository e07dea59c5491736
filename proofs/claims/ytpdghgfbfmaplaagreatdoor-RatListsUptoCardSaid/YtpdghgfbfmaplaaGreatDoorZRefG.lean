/- Lemmas for RatLists. -/
import Derived.Test.YtpdghgfbfmaplaaGreatDoorZRefF
set_option maxRecDepth 100000
set_option maxHeartbeats 8000000
section
set_option linter.unusedVariables false
set_option linter.unusedSimpArgs false
namespace Go.Proofs.YtpdghgfbfmaplaaGreatDoor.Rf
open Go.RowKit Go.Proofs.YtpdghgfbfmaplaaGreatDoorW.PrintWords Go.Proofs.YtpdghgfbfmaplaaGreatDoor.Num Go.Proofs.YtpdghgfbfmaplaaGreatDoor.PRef Go.Proofs.YtpdghgfbfmaplaaGreatDoor.WhC Go.Proofs.YtpdghgfbfmaplaaGreatDoor.Dec Go.Proofs.YtpdghgfbfmaplaaGreatDoor.Wh
theorem plus_same{q p:Rat}{a b:Bool}(ha:a=decide (q.num<0))(hb:b=decide (p.num<0))(h:a=b):Rat.divInt (sgz a ((q.num.natAbs:Int)*(p.den:Int)+(p.num.natAbs:Int)*(q.den:Int))) ((q.den:Int)*(p.den:Int))=q+p:=by
 rw [←add_divInt]
 congr 1
 subst ha
 rcases Int.lt_or_le q.num 0 with h1|h1
 · rw [decide_eq_true h1]at h ⊢;have h2:p.num<0:=by rw [←h]at hb;simpa using hb.symm
   rw [show (q.num.natAbs:Int)= -q.num by omega,show (p.num.natAbs:Int)= -p.num by omega,Int.neg_mul,Int.neg_mul];show -(_+_)=_
   omega
 · rw [decide_eq_false (show ¬q.num<0 by omega)]at h ⊢;have h2:¬p.num<0:=by rw [←h]at hb;simpa using hb.symm
   rw [show (q.num.natAbs:Int)=q.num by omega,show (p.num.natAbs:Int)=p.num by omega];rfl
theorem plus_left{q p:Rat}{a b:Bool}(ha:a=decide (q.num<0))(hb:b=decide (p.num<0))(h:¬a=b):Rat.divInt (sgz a ((q.num.natAbs:Int)*(p.den:Int)-(p.num.natAbs:Int)*(q.den:Int))) ((q.den:Int)*(p.den:Int))=q+p:=by
 rw [←add_divInt]
 congr 1
 subst ha
 rcases Int.lt_or_le q.num 0 with h1|h1
 · rw [decide_eq_true h1]at h ⊢;have h2:¬p.num<0:=fun h2=>h (hb.trans (decide_eq_true h2)).symm
   rw [show (q.num.natAbs:Int)= -q.num by omega,show (p.num.natAbs:Int)=p.num by omega,Int.neg_mul];show -(_-_)=_
   omega
 · rw [decide_eq_false (show ¬q.num<0 by omega)]at h ⊢;have h2:p.num<0:=by
    rcases Int.lt_or_le p.num 0 with h2|h2
    · exact h2
    · exact absurd (hb.trans (decide_eq_false (by omega))).symm h
   rw [show (q.num.natAbs:Int)=q.num by omega,show (p.num.natAbs:Int)= -p.num by omega,Int.neg_mul];show _- -_=_
   omega
theorem plus_right{q p:Rat}{a b:Bool}(ha:a=decide (q.num<0))(hb:b=decide (p.num<0))(h:¬a=b):Rat.divInt (sgz b ((p.num.natAbs:Int)*(q.den:Int)-(q.num.natAbs:Int)*(p.den:Int))) ((q.den:Int)*(p.den:Int))=q+p:=by
 rw [Rat.add_comm,Int.mul_comm (q.den:Int)]
 exact plus_left hb ha (fun e=>h e.symm)
section
variable {P:Nat→Prop} {K K':Nat} {w:World}
theorem q_Plus_s{x y:QV}{q p:Rat}(hx:IsQ P K w x q)(hy:IsQ P K w y p)(hK:K≤100000000)(hP:∀k,w.heap.size≤k→P k)(h:x.b=y.b) :
 Calls Tryz.prog 71 #[.agg #[.bool x.b,.slice x.nA x.nn x.nc,.slice x.dA x.dn x.dc],.agg #[.bool y.b,.slice y.nA y.nn y.nc,.slice y.dA y.dn y.dc]] w fun e w'=>∃r:QV,e=.returned (.agg #[.bool r.b,.slice r.nA r.nn r.nc,.slice r.dA r.dn r.dc])∧IsQ P (K+K+1) w' r (q+p)∧Below w.heap.size w w':=by
 have HX:=Lib.hid (hx.gap 3)
 have HY:=Lib.hid (hy.gap 3)
 have HP:=Lib.hid hP
 have HK:=Lib.hid hK
 have HU:=Lib.hid (show(0:Int)<(q.den:Int)*(p.den:Int)from Int.mul_pos (den_pos q) (den_pos p))
 have HE:=Lib.hid (plus_same hx.hb hy.hb h)
 have hbe:(x.b==y.b)=true:=by simpa using h
 clear hx hy hP hK h
 have HF0:=Lib.hid (show Fr [(w.heap.size,0,(.bool x.b)),(w.heap.size,1,(.slice x.nA x.nn x.nc)),(w.heap.size,2,(.slice x.dA x.dn x.dc)),(w.heap.size+1,0,(.bool y.b)),(w.heap.size+1,1,(.slice y.nA y.nn y.nc)),(w.heap.size+1,2,(.slice y.dA y.dn y.dc)),(w.heap.size+1+1,0,(.bool false)),(w.heap.size+1+1,1,(.slice none 0 0)),(w.heap.size+1+1,2,(.slice none 0 0))] (w.heap.size+1+1+1) (((w.alloc (.cells #[.bool x.b,.slice x.nA x.nn x.nc,.slice x.dA x.dn x.dc] 60)).alloc (.cells #[.bool y.b,.slice y.nA y.nn y.nc,.slice y.dA y.dn y.dc] 60)).alloc (.cells #[.bool false,.slice none 0 0,.slice none 0 0] 60))from frq)
 go_enter Tryz.func71,Tryz.ntmps71
 go_wp2_with fail
 refine OrdL.begin_ (S:=fun W=>W.cell? ⟨w.heap.size,0,none⟩=some (.bool x.b)∧W.cell? ⟨w.heap.size,1,none⟩=some (.slice x.nA x.nn x.nc)∧W.cell? ⟨w.heap.size,2,none⟩=some (.slice x.dA x.dn x.dc)∧W.cell? ⟨w.heap.size+1,0,none⟩=some (.bool y.b)∧W.cell? ⟨w.heap.size+1,1,none⟩=some (.slice y.nA y.nn y.nc)∧W.cell? ⟨w.heap.size+1,2,none⟩=some (.slice y.dA y.dn y.dc)∧W.cell? ⟨w.heap.size+1+1,0,none⟩=some (.bool false)∧W.cell? ⟨w.heap.size+1+1,1,none⟩=some (.slice none 0 0)∧W.cell? ⟨w.heap.size+1+1,2,none⟩=some (.slice none 0 0)) [15,16,17] [] (by kernel_rfl) ?_ (fun hHeld=>?_)
 focus ((try dsimp only);exact(HF0.out.go blq).all 0 9)
 refine OrdL.tk 0 (some 8) ?_
 refine nw ?_
 refine OrdL.tk 1 (some 9) ?_
 refine nw ?_
 refine OrdL.tk 2 (some 10) ?_
 refine nw ?_
 refine OrdL.tk 3 (some 11) ?_
 refine nw ?_
 refine OrdL.tk 5 (some 13) ?_
 refine nw ?_
 refine OrdL.tk 6 (some 14) ?_
 refine nw ?_
 refine OrdL.tk 7 (some 15) ?_
 refine nw ?_
 refine OrdL.tk 8 (some 16) ?_
 refine nw ?_
 refine OrdL.tk 10 (some 18) ?_
 refine nw ?_
 refine OrdL.tk 11 (some 19) ?_
 refine nw ?_
 refine OrdL.tk 12 (some 20) ?_
 refine nw ?_
 refine OrdL.tk 13 (some 21) ?_
 refine nw ?_
 refine OrdL.st 4 fun Kc hKc=>?_
 refine nv ?_
 go_simp
 refine(d_mulNat (P:=Gp P w.heap.size 3) (HX.out.hn.below blq) (HY.out.hd.below blq) (by have:=HK.out;omega) (by have:=HK.out;omega) (gap_fresh HP.out blq arq)).mono ?_
 rintro e w1 ⟨A1,n1,c1,rfl,h1,hb1⟩
 have H1:=Lib.hid h1;clear h1
 have HF1:=fgo w1 HF0
 have hz1:=HF1.out.1
 obtain⟨hl1_0,hl1_1,hl1_2⟩:=lt3 hz1
 obtain⟨_,_,_,_,_,_,_,_,_,-⟩:=HF1.out.alls 0 9
 obtain⟨_,_,_,-⟩:=HF1.out.falls 6 3
 go_wp2_with fail
 refine hKc.out _ _ ?_ (fun hHeld=>?_)
 focus ((try dsimp only);exact(HF1.out.go blq).all 0 9)
 clear hKc Kc
 refine nw ?_
 refine OrdL.st 9 fun Kc hKc=>?_
 refine nv ?_
 go_simp
 refine(d_mulNat (P:=Gp P w.heap.size 3) (HY.out.hn.below blq) (HX.out.hd.below blq) (by have:=HK.out;omega) (by have:=HK.out;omega) (gap_fresh HP.out blq arq)).mono ?_
 rintro e w2 ⟨A2,n2,c2,rfl,h2,hb2⟩
 have H2:=Lib.hid h2;clear h2
 have HF2:=fgo w2 HF1
 have hz2:=HF2.out.1
 obtain⟨hl2_0,hl2_1,hl2_2⟩:=lt3 hz2
 obtain⟨_,_,_,_,_,_,_,_,_,-⟩:=HF2.out.alls 0 9
 obtain⟨_,_,_,-⟩:=HF2.out.falls 6 3
 go_wp2_with fail
 refine hKc.out _ _ ?_ (fun hHeld=>?_)
 focus ((try dsimp only);exact(HF2.out.go blq).all 0 9)
 clear hKc Kc
 refine nw ?_
 refine OrdL.st 14 fun Kc hKc=>?_
 refine nv ?_
 go_simp
 refine(d_mulNat (P:=Gp P w.heap.size 3) (HX.out.hd.below blq) (HY.out.hd.below blq) (by have:=HK.out;omega) (by have:=HK.out;omega) (gap_fresh HP.out blq arq)).mono ?_
 rintro e w3 ⟨A3,n3,c3,rfl,h3,hb3⟩
 have H3:=Lib.hid h3;clear h3
 have HF3:=fgo w3 HF2
 have hz3:=HF3.out.1
 obtain⟨hl3_0,hl3_1,hl3_2⟩:=lt3 hz3
 obtain⟨_,_,_,_,_,_,_,_,_,-⟩:=HF3.out.alls 0 9
 obtain⟨_,_,_,-⟩:=HF3.out.falls 6 3
 go_wp2_with fail
 refine hKc.out _ _ ?_ (fun hHeld=>?_)
 focus ((try dsimp only);exact(HF3.out.go blq).all 0 9)
 clear hKc Kc
 refine nw ?_
 refine OrdL.takeW (i:=15) (d:=(some 5)) (v:=?_) rfl rfl (by decide) (by kernel_rfl) (by kernel_rfl) (by kernel_rfl) (fun _ _ _ h=>h) ⟨by rfl,?_⟩ ?_
 rotate_left
 focus (intro w;go_simp;try with_reducible rfl)
 refine nw ?_
 refine OrdL.takeW (i:=16) (d:=(some 6)) (v:=?_) rfl rfl (by decide) (by kernel_rfl) (by kernel_rfl) (by kernel_rfl) (fun _ _ _ h=>h) ⟨by rfl,?_⟩ ?_
 rotate_left
 focus (intro w;go_simp;try with_reducible rfl)
 refine nw ?_
 refine OrdL.takeW (i:=17) (d:=(some 7)) (v:=?_) rfl rfl (by decide) (by kernel_rfl) (by kernel_rfl) (by kernel_rfl) (fun _ _ _ h=>h) ⟨by rfl,?_⟩ ?_
 rotate_left
 focus (intro w;go_simp;try with_reducible rfl)
 refine nw ?_
 refine OrdL.done (by kernel_rfl) ?_ _
 go_wp2_with fail
 refine OrdL.begin_ (S:=fun W=>W.cell? ⟨w.heap.size,0,none⟩=some (.bool x.b)∧W.cell? ⟨w.heap.size,1,none⟩=some (.slice x.nA x.nn x.nc)∧W.cell? ⟨w.heap.size,2,none⟩=some (.slice x.dA x.dn x.dc)∧W.cell? ⟨w.heap.size+1,0,none⟩=some (.bool y.b)∧W.cell? ⟨w.heap.size+1,1,none⟩=some (.slice y.nA y.nn y.nc)∧W.cell? ⟨w.heap.size+1,2,none⟩=some (.slice y.dA y.dn y.dc)∧W.cell? ⟨w.heap.size+1+1,0,none⟩=some (.bool false)∧W.cell? ⟨w.heap.size+1+1,1,none⟩=some (.slice none 0 0)∧W.cell? ⟨w.heap.size+1+1,2,none⟩=some (.slice none 0 0)) [] [7] (by kernel_rfl) ?_ (fun hHeld=>?_)
 focus ((try dsimp only);exact(HF3.out.go blq).all 0 9)
 refine OrdL.tk 0 (some 28) ?_
 refine nw ?_
 refine OrdL.tk 1 (some 29) ?_
 refine nw ?_
 refine OrdL.tk 2 (some 30) ?_
 refine nw ?_
 refine OrdL.tk 3 (some 31) ?_
 refine nw ?_
 refine OrdL.tk 5 (some 33) ?_
 refine nw ?_
 refine OrdL.st 4 fun Kc hKc=>?_
 refine nv ?_
 go_simp
 refine(d_addNat (P:=Gp P w.heap.size 3) (K:=K+K) (H1.out.below blq) (H2.out.below blq) (by have:=HK.out;omega) (gap_fresh HP.out blq arq)).mono ?_
 rintro e w4 ⟨A4,n4,c4,rfl,h4,hb4⟩
 have H4:=Lib.hid h4;clear h4
 have HF4:=fgo w4 HF3
 have hz4:=HF4.out.1
 obtain⟨hl4_0,hl4_1,hl4_2⟩:=lt3 hz4
 obtain⟨_,_,_,_,_,_,_,_,_,-⟩:=HF4.out.alls 0 9
 obtain⟨_,_,_,-⟩:=HF4.out.falls 6 3
 go_wp2_with fail
 refine hKc.out _ _ ?_ (fun hHeld=>?_)
 focus ((try dsimp only);exact(HF4.out.go blq).all 0 9)
 clear hKc Kc
 refine nw ?_
 refine OrdL.st 6 fun Kc hKc=>?_
 refine nv ?_
 go_simp
 refine(q_lowest (P:=Gp P w.heap.size 3) (K:=K+K+1) x.b (H4.out.below blq) ((H3.out.wide (Nat.le_succ _)).below blq) HU.out (by have:=HK.out;omega) (gap_fresh HP.out blq arq)).mono ?_
 rintro e w5 ⟨r0,rfl,hr,hb5⟩
 have HR:=Lib.hid hr;clear hr
 have HF5:=fgo w5 HF4
 have hz5:=HF5.out.1
 obtain⟨hl5_0,hl5_1,hl5_2⟩:=lt3 hz5
 obtain⟨_,_,_,_,_,_,q5_6,q5_7,q5_8,-⟩:=HF5.out.alls 0 9
 obtain⟨_,_,_,-⟩:=HF5.out.falls 6 3
 go_wp2_with fail
 refine hKc.out _ _ ?_ (fun hHeld=>?_)
 focus ((try dsimp only);exact(HF5.out.go blq).all 0 9)
 clear hKc Kc
 refine nw ?_
 refine OrdL.last (i:=7) rfl (by decide) (by decide) (by kernel_rfl) (fun Kc hKc=>?_)
 refine nv ?_
 go_simp
 refine hKc.out _ _ ?_
 clear hKc Kc
 refine nw ?_
 refine OrdL.done (by kernel_rfl) ?_ _
 go_wp2_with fail
 refine bodyPost_ret (v:=.agg #[.bool r0.b,.slice r0.nA r0.nn r0.nc,.slice r0.dA r0.dn r0.dc]) (by simp [results,Tryz.results71,go_sem,q5_6,q5_7,q5_8]) rfl ⟨r0,rfl,IsQ.ungap (s:=w.heap.size) (n:=3) ?_,blq⟩
 rw [←HE.out];exact(((HR.out.put _ arq arq).put _ arq arq).put _ arq arq)
theorem q_Plus_l{x y:QV}{q p:Rat}(hx:IsQ P K w x q)(hy:IsQ P K w y p)(hK:K≤100000000)(hP:∀k,w.heap.size≤k→P k)(h:¬x.b=y.b)(hc:(p.num.natAbs:Int)*(q.den:Int)≤(q.num.natAbs:Int)*(p.den:Int)) :
 Calls Tryz.prog 71 #[.agg #[.bool x.b,.slice x.nA x.nn x.nc,.slice x.dA x.dn x.dc],.agg #[.bool y.b,.slice y.nA y.nn y.nc,.slice y.dA y.dn y.dc]] w fun e w'=>∃r:QV,e=.returned (.agg #[.bool r.b,.slice r.nA r.nn r.nc,.slice r.dA r.dn r.dc])∧IsQ P (K+K+1) w' r (q+p)∧Below w.heap.size w w':=by
 have HX:=Lib.hid (hx.gap 3)
 have HY:=Lib.hid (hy.gap 3)
 have HP:=Lib.hid hP
 have HK:=Lib.hid hK
 have HU:=Lib.hid (show(0:Int)<(q.den:Int)*(p.den:Int)from Int.mul_pos (den_pos q) (den_pos p))
 have HE:=Lib.hid (plus_left hx.hb hy.hb h)
 have hbe:(x.b==y.b)=false:=by simpa using h
 obtain⟨r,hr⟩:∃r,((q.num.natAbs:Int)*(p.den:Int)-(p.num.natAbs:Int)*(q.den:Int)).sign=r:=⟨_,rfl⟩
 have hr0:0≤r:=by
  rcases Int.lt_or_eq_of_le (show 0≤(q.num.natAbs:Int)*(p.den:Int)-(p.num.natAbs:Int)*(q.den:Int) by omega)with h1|h1
  · rw [Int.sign_eq_one_of_pos h1]at hr;omega
  · rw [←h1]at hr;simp at hr;omega
 have hr1:decide (0≤r)=true:=decide_eq_true hr0
 have HS:=Lib.hid hr
 have HC:=Lib.hid hc
 clear hr hc
 clear hx hy hP hK h
 have HF0:=Lib.hid (show Fr [(w.heap.size,0,(.bool x.b)),(w.heap.size,1,(.slice x.nA x.nn x.nc)),(w.heap.size,2,(.slice x.dA x.dn x.dc)),(w.heap.size+1,0,(.bool y.b)),(w.heap.size+1,1,(.slice y.nA y.nn y.nc)),(w.heap.size+1,2,(.slice y.dA y.dn y.dc)),(w.heap.size+1+1,0,(.bool false)),(w.heap.size+1+1,1,(.slice none 0 0)),(w.heap.size+1+1,2,(.slice none 0 0))] (w.heap.size+1+1+1) (((w.alloc (.cells #[.bool x.b,.slice x.nA x.nn x.nc,.slice x.dA x.dn x.dc] 60)).alloc (.cells #[.bool y.b,.slice y.nA y.nn y.nc,.slice y.dA y.dn y.dc] 60)).alloc (.cells #[.bool false,.slice none 0 0,.slice none 0 0] 60))from frq)
 go_enter Tryz.func71,Tryz.ntmps71
 go_wp2_with fail
 refine OrdL.begin_ (S:=fun W=>W.cell? ⟨w.heap.size,0,none⟩=some (.bool x.b)∧W.cell? ⟨w.heap.size,1,none⟩=some (.slice x.nA x.nn x.nc)∧W.cell? ⟨w.heap.size,2,none⟩=some (.slice x.dA x.dn x.dc)∧W.cell? ⟨w.heap.size+1,0,none⟩=some (.bool y.b)∧W.cell? ⟨w.heap.size+1,1,none⟩=some (.slice y.nA y.nn y.nc)∧W.cell? ⟨w.heap.size+1,2,none⟩=some (.slice y.dA y.dn y.dc)∧W.cell? ⟨w.heap.size+1+1,0,none⟩=some (.bool false)∧W.cell? ⟨w.heap.size+1+1,1,none⟩=some (.slice none 0 0)∧W.cell? ⟨w.heap.size+1+1,2,none⟩=some (.slice none 0 0)) [15,16,17] [] (by kernel_rfl) ?_ (fun hHeld=>?_)
 focus ((try dsimp only);exact(HF0.out.go blq).all 0 9)
 refine OrdL.tk 0 (some 8) ?_
 refine nw ?_
 refine OrdL.tk 1 (some 9) ?_
 refine nw ?_
 refine OrdL.tk 2 (some 10) ?_
 refine nw ?_
 refine OrdL.tk 3 (some 11) ?_
 refine nw ?_
 refine OrdL.tk 5 (some 13) ?_
 refine nw ?_
 refine OrdL.tk 6 (some 14) ?_
 refine nw ?_
 refine OrdL.tk 7 (some 15) ?_
 refine nw ?_
 refine OrdL.tk 8 (some 16) ?_
 refine nw ?_
 refine OrdL.tk 10 (some 18) ?_
 refine nw ?_
 refine OrdL.tk 11 (some 19) ?_
 refine nw ?_
 refine OrdL.tk 12 (some 20) ?_
 refine nw ?_
 refine OrdL.tk 13 (some 21) ?_
 refine nw ?_
 refine OrdL.st 4 fun Kc hKc=>?_
 refine nv ?_
 go_simp
 refine(d_mulNat (P:=Gp P w.heap.size 3) (HX.out.hn.below blq) (HY.out.hd.below blq) (by have:=HK.out;omega) (by have:=HK.out;omega) (gap_fresh HP.out blq arq)).mono ?_
 rintro e w1 ⟨A1,n1,c1,rfl,h1,hb1⟩
 have H1:=Lib.hid h1;clear h1
 have HF1:=fgo w1 HF0
 have hz1:=HF1.out.1
 obtain⟨hl1_0,hl1_1,hl1_2⟩:=lt3 hz1
 obtain⟨_,_,_,_,_,_,_,_,_,-⟩:=HF1.out.alls 0 9
 obtain⟨_,_,_,-⟩:=HF1.out.falls 6 3
 go_wp2_with fail
 refine hKc.out _ _ ?_ (fun hHeld=>?_)
 focus ((try dsimp only);exact(HF1.out.go blq).all 0 9)
 clear hKc Kc
 refine nw ?_
 refine OrdL.st 9 fun Kc hKc=>?_
 refine nv ?_
 go_simp
 refine(d_mulNat (P:=Gp P w.heap.size 3) (HY.out.hn.below blq) (HX.out.hd.below blq) (by have:=HK.out;omega) (by have:=HK.out;omega) (gap_fresh HP.out blq arq)).mono ?_
 rintro e w2 ⟨A2,n2,c2,rfl,h2,hb2⟩
 have H2:=Lib.hid h2;clear h2
 have HF2:=fgo w2 HF1
 have hz2:=HF2.out.1
 obtain⟨hl2_0,hl2_1,hl2_2⟩:=lt3 hz2
 obtain⟨_,_,_,_,_,_,_,_,_,-⟩:=HF2.out.alls 0 9
 obtain⟨_,_,_,-⟩:=HF2.out.falls 6 3
 go_wp2_with fail
 refine hKc.out _ _ ?_ (fun hHeld=>?_)
 focus ((try dsimp only);exact(HF2.out.go blq).all 0 9)
 clear hKc Kc
 refine nw ?_
 refine OrdL.st 14 fun Kc hKc=>?_
 refine nv ?_
 go_simp
 refine(d_mulNat (P:=Gp P w.heap.size 3) (HX.out.hd.below blq) (HY.out.hd.below blq) (by have:=HK.out;omega) (by have:=HK.out;omega) (gap_fresh HP.out blq arq)).mono ?_
 rintro e w3 ⟨A3,n3,c3,rfl,h3,hb3⟩
 have H3:=Lib.hid h3;clear h3
 have HF3:=fgo w3 HF2
 have hz3:=HF3.out.1
 obtain⟨hl3_0,hl3_1,hl3_2⟩:=lt3 hz3
 obtain⟨_,_,_,_,_,_,_,_,_,-⟩:=HF3.out.alls 0 9
 obtain⟨_,_,_,-⟩:=HF3.out.falls 6 3
 go_wp2_with fail
 refine hKc.out _ _ ?_ (fun hHeld=>?_)
 focus ((try dsimp only);exact(HF3.out.go blq).all 0 9)
 clear hKc Kc
 refine nw ?_
 refine OrdL.takeW (i:=15) (d:=(some 5)) (v:=?_) rfl rfl (by decide) (by kernel_rfl) (by kernel_rfl) (by kernel_rfl) (fun _ _ _ h=>h) ⟨by rfl,?_⟩ ?_
 rotate_left
 focus (intro w;go_simp;try with_reducible rfl)
 refine nw ?_
 refine OrdL.takeW (i:=16) (d:=(some 6)) (v:=?_) rfl rfl (by decide) (by kernel_rfl) (by kernel_rfl) (by kernel_rfl) (fun _ _ _ h=>h) ⟨by rfl,?_⟩ ?_
 rotate_left
 focus (intro w;go_simp;try with_reducible rfl)
 refine nw ?_
 refine OrdL.takeW (i:=17) (d:=(some 7)) (v:=?_) rfl rfl (by decide) (by kernel_rfl) (by kernel_rfl) (by kernel_rfl) (fun _ _ _ h=>h) ⟨by rfl,?_⟩ ?_
 rotate_left
 focus (intro w;go_simp;try with_reducible rfl)
 refine nw ?_
 refine OrdL.done (by kernel_rfl) ?_ _
 go_wp2_with fail
 refine(d_cmpNat' (r:=r) (H1.out.below blq) (H2.out.below blq) (by have:=HK.out;omega) (by have:=HK.out;omega) HS.out).mono ?_
 rintro e w4 ⟨rfl,hb4⟩
 have HF4:=fgo w4 HF3
 have hz4:=HF4.out.1
 obtain⟨hl4_0,hl4_1,hl4_2⟩:=lt3 hz4
 obtain⟨_,_,_,_,_,_,_,_,_,-⟩:=HF4.out.alls 0 9
 obtain⟨_,_,_,-⟩:=HF4.out.falls 6 3
 go_wp2_with fail
 refine OrdL.begin_ (S:=fun W=>W.cell? ⟨w.heap.size,0,none⟩=some (.bool x.b)∧W.cell? ⟨w.heap.size,1,none⟩=some (.slice x.nA x.nn x.nc)∧W.cell? ⟨w.heap.size,2,none⟩=some (.slice x.dA x.dn x.dc)∧W.cell? ⟨w.heap.size+1,0,none⟩=some (.bool y.b)∧W.cell? ⟨w.heap.size+1,1,none⟩=some (.slice y.nA y.nn y.nc)∧W.cell? ⟨w.heap.size+1,2,none⟩=some (.slice y.dA y.dn y.dc)∧W.cell? ⟨w.heap.size+1+1,0,none⟩=some (.bool false)∧W.cell? ⟨w.heap.size+1+1,1,none⟩=some (.slice none 0 0)∧W.cell? ⟨w.heap.size+1+1,2,none⟩=some (.slice none 0 0)) [] [7] (by kernel_rfl) ?_ (fun hHeld=>?_)
 focus ((try dsimp only);exact(HF4.out.go blq).all 0 9)
 refine OrdL.tk 0 (some 39) ?_
 refine nw ?_
 refine OrdL.tk 1 (some 40) ?_
 refine nw ?_
 refine OrdL.tk 2 (some 41) ?_
 refine nw ?_
 refine OrdL.tk 3 (some 42) ?_
 refine nw ?_
 refine OrdL.tk 5 (some 44) ?_
 refine nw ?_
 refine OrdL.st 4 fun Kc hKc=>?_
 refine nv ?_
 go_simp
 refine(d_subNat (P:=Gp P w.heap.size 3) (K:=K+K) (H1.out.below blq) (H2.out.below blq) HC.out (by have:=HK.out;omega) (gap_fresh HP.out blq arq)).mono ?_
 rintro e w5 ⟨A4,n4,c4,rfl,h4,hb5⟩
 have H4:=Lib.hid h4;clear h4
 have HF5:=fgo w5 HF4
 have hz5:=HF5.out.1
 obtain⟨hl5_0,hl5_1,hl5_2⟩:=lt3 hz5
 obtain⟨_,_,_,_,_,_,_,_,_,-⟩:=HF5.out.alls 0 9
 obtain⟨_,_,_,-⟩:=HF5.out.falls 6 3
 go_wp2_with fail
 refine hKc.out _ _ ?_ (fun hHeld=>?_)
 focus ((try dsimp only);exact(HF5.out.go blq).all 0 9)
 clear hKc Kc
 refine nw ?_
 refine OrdL.st 6 fun Kc hKc=>?_
 refine nv ?_
 go_simp
 refine(q_lowest (P:=Gp P w.heap.size 3) (K:=K+K+1) x.b ((H4.out.wide (Nat.le_succ _)).below blq) ((H3.out.wide (Nat.le_succ _)).below blq) HU.out (by have:=HK.out;omega) (gap_fresh HP.out blq arq)).mono ?_
 rintro e w6 ⟨r0,rfl,hr,hb6⟩
 have HR:=Lib.hid hr;clear hr
 have HF6:=fgo w6 HF5
 have hz6:=HF6.out.1
 obtain⟨hl6_0,hl6_1,hl6_2⟩:=lt3 hz6
 obtain⟨_,_,_,_,_,_,q6_6,q6_7,q6_8,-⟩:=HF6.out.alls 0 9
 obtain⟨_,_,_,-⟩:=HF6.out.falls 6 3
 go_wp2_with fail
 refine hKc.out _ _ ?_ (fun hHeld=>?_)
 focus ((try dsimp only);exact(HF6.out.go blq).all 0 9)
 clear hKc Kc
 refine nw ?_
 refine OrdL.last (i:=7) rfl (by decide) (by decide) (by kernel_rfl) (fun Kc hKc=>?_)
 refine nv ?_
 go_simp
 refine hKc.out _ _ ?_
 clear hKc Kc
 refine nw ?_
 refine OrdL.done (by kernel_rfl) ?_ _
 go_wp2_with fail
 refine bodyPost_ret (v:=.agg #[.bool r0.b,.slice r0.nA r0.nn r0.nc,.slice r0.dA r0.dn r0.dc]) (by simp [results,Tryz.results71,go_sem,q6_6,q6_7,q6_8]) rfl ⟨r0,rfl,IsQ.ungap (s:=w.heap.size) (n:=3) ?_,blq⟩
 rw [←HE.out];exact(((HR.out.put _ arq arq).put _ arq arq).put _ arq arq)
theorem q_Plus_r{x y:QV}{q p:Rat}(hx:IsQ P K w x q)(hy:IsQ P K w y p)(hK:K≤100000000)(hP:∀k,w.heap.size≤k→P k)(h:¬x.b=y.b)(hc:(q.num.natAbs:Int)*(p.den:Int)<(p.num.natAbs:Int)*(q.den:Int)) :
 Calls Tryz.prog 71 #[.agg #[.bool x.b,.slice x.nA x.nn x.nc,.slice x.dA x.dn x.dc],.agg #[.bool y.b,.slice y.nA y.nn y.nc,.slice y.dA y.dn y.dc]] w fun e w'=>∃r:QV,e=.returned (.agg #[.bool r.b,.slice r.nA r.nn r.nc,.slice r.dA r.dn r.dc])∧IsQ P (K+K+1) w' r (q+p)∧Below w.heap.size w w':=by
 have HX:=Lib.hid (hx.gap 3)
 have HY:=Lib.hid (hy.gap 3)
 have HP:=Lib.hid hP
 have HK:=Lib.hid hK
 have HU:=Lib.hid (show(0:Int)<(q.den:Int)*(p.den:Int)from Int.mul_pos (den_pos q) (den_pos p))
 have HE:=Lib.hid (plus_right hx.hb hy.hb h)
 have hbe:(x.b==y.b)=false:=by simpa using h
 obtain⟨r,hr⟩:∃r,((q.num.natAbs:Int)*(p.den:Int)-(p.num.natAbs:Int)*(q.den:Int)).sign=r:=⟨_,rfl⟩
 have hr0:r= -1:=hr.symm.trans (Int.sign_eq_neg_one_of_neg (by omega))
 subst hr0
 have HS:=Lib.hid hr
 have HC:=Lib.hid hc
 clear hr hc
 clear hx hy hP hK h
 have HF0:=Lib.hid (show Fr [(w.heap.size,0,(.bool x.b)),(w.heap.size,1,(.slice x.nA x.nn x.nc)),(w.heap.size,2,(.slice x.dA x.dn x.dc)),(w.heap.size+1,0,(.bool y.b)),(w.heap.size+1,1,(.slice y.nA y.nn y.nc)),(w.heap.size+1,2,(.slice y.dA y.dn y.dc)),(w.heap.size+1+1,0,(.bool false)),(w.heap.size+1+1,1,(.slice none 0 0)),(w.heap.size+1+1,2,(.slice none 0 0))] (w.heap.size+1+1+1) (((w.alloc (.cells #[.bool x.b,.slice x.nA x.nn x.nc,.slice x.dA x.dn x.dc] 60)).alloc (.cells #[.bool y.b,.slice y.nA y.nn y.nc,.slice y.dA y.dn y.dc] 60)).alloc (.cells #[.bool false,.slice none 0 0,.slice none 0 0] 60))from frq)
 go_enter Tryz.func71,Tryz.ntmps71
 go_wp2_with fail
 refine OrdL.begin_ (S:=fun W=>W.cell? ⟨w.heap.size,0,none⟩=some (.bool x.b)∧W.cell? ⟨w.heap.size,1,none⟩=some (.slice x.nA x.nn x.nc)∧W.cell? ⟨w.heap.size,2,none⟩=some (.slice x.dA x.dn x.dc)∧W.cell? ⟨w.heap.size+1,0,none⟩=some (.bool y.b)∧W.cell? ⟨w.heap.size+1,1,none⟩=some (.slice y.nA y.nn y.nc)∧W.cell? ⟨w.heap.size+1,2,none⟩=some (.slice y.dA y.dn y.dc)∧W.cell? ⟨w.heap.size+1+1,0,none⟩=some (.bool false)∧W.cell? ⟨w.heap.size+1+1,1,none⟩=some (.slice none 0 0)∧W.cell? ⟨w.heap.size+1+1,2,none⟩=some (.slice none 0 0)) [15,16,17] [] (by kernel_rfl) ?_ (fun hHeld=>?_)
 focus ((try dsimp only);exact(HF0.out.go blq).all 0 9)
 refine OrdL.tk 0 (some 8) ?_
 refine nw ?_
 refine OrdL.tk 1 (some 9) ?_
 refine nw ?_
 refine OrdL.tk 2 (some 10) ?_
 refine nw ?_
 refine OrdL.tk 3 (some 11) ?_
 refine nw ?_
 refine OrdL.tk 5 (some 13) ?_
 refine nw ?_
 refine OrdL.tk 6 (some 14) ?_
 refine nw ?_
 refine OrdL.tk 7 (some 15) ?_
 refine nw ?_
 refine OrdL.tk 8 (some 16) ?_
 refine nw ?_
 refine OrdL.tk 10 (some 18) ?_
 refine nw ?_
 refine OrdL.tk 11 (some 19) ?_
 refine nw ?_
 refine OrdL.tk 12 (some 20) ?_
 refine nw ?_
 refine OrdL.tk 13 (some 21) ?_
 refine nw ?_
 refine OrdL.st 4 fun Kc hKc=>?_
 refine nv ?_
 go_simp
 refine(d_mulNat (P:=Gp P w.heap.size 3) (HX.out.hn.below blq) (HY.out.hd.below blq) (by have:=HK.out;omega) (by have:=HK.out;omega) (gap_fresh HP.out blq arq)).mono ?_
 rintro e w1 ⟨A1,n1,c1,rfl,h1,hb1⟩
 have H1:=Lib.hid h1;clear h1
 have HF1:=fgo w1 HF0
 have hz1:=HF1.out.1
 obtain⟨hl1_0,hl1_1,hl1_2⟩:=lt3 hz1
 obtain⟨_,_,_,_,_,_,_,_,_,-⟩:=HF1.out.alls 0 9
 obtain⟨_,_,_,-⟩:=HF1.out.falls 6 3
 go_wp2_with fail
 refine hKc.out _ _ ?_ (fun hHeld=>?_)
 focus ((try dsimp only);exact(HF1.out.go blq).all 0 9)
 clear hKc Kc
 refine nw ?_
 refine OrdL.st 9 fun Kc hKc=>?_
 refine nv ?_
 go_simp
 refine(d_mulNat (P:=Gp P w.heap.size 3) (HY.out.hn.below blq) (HX.out.hd.below blq) (by have:=HK.out;omega) (by have:=HK.out;omega) (gap_fresh HP.out blq arq)).mono ?_
 rintro e w2 ⟨A2,n2,c2,rfl,h2,hb2⟩
 have H2:=Lib.hid h2;clear h2
 have HF2:=fgo w2 HF1
 have hz2:=HF2.out.1
 obtain⟨hl2_0,hl2_1,hl2_2⟩:=lt3 hz2
 obtain⟨_,_,_,_,_,_,_,_,_,-⟩:=HF2.out.alls 0 9
 obtain⟨_,_,_,-⟩:=HF2.out.falls 6 3
 go_wp2_with fail
 refine hKc.out _ _ ?_ (fun hHeld=>?_)
 focus ((try dsimp only);exact(HF2.out.go blq).all 0 9)
 clear hKc Kc
 refine nw ?_
 refine OrdL.st 14 fun Kc hKc=>?_
 refine nv ?_
 go_simp
 refine(d_mulNat (P:=Gp P w.heap.size 3) (HX.out.hd.below blq) (HY.out.hd.below blq) (by have:=HK.out;omega) (by have:=HK.out;omega) (gap_fresh HP.out blq arq)).mono ?_
 rintro e w3 ⟨A3,n3,c3,rfl,h3,hb3⟩
 have H3:=Lib.hid h3;clear h3
 have HF3:=fgo w3 HF2
 have hz3:=HF3.out.1
 obtain⟨hl3_0,hl3_1,hl3_2⟩:=lt3 hz3
 obtain⟨_,_,_,_,_,_,_,_,_,-⟩:=HF3.out.alls 0 9
 obtain⟨_,_,_,-⟩:=HF3.out.falls 6 3
 go_wp2_with fail
 refine hKc.out _ _ ?_ (fun hHeld=>?_)
 focus ((try dsimp only);exact(HF3.out.go blq).all 0 9)
 clear hKc Kc
 refine nw ?_
 refine OrdL.takeW (i:=15) (d:=(some 5)) (v:=?_) rfl rfl (by decide) (by kernel_rfl) (by kernel_rfl) (by kernel_rfl) (fun _ _ _ h=>h) ⟨by rfl,?_⟩ ?_
 rotate_left
 focus (intro w;go_simp;try with_reducible rfl)
 refine nw ?_
 refine OrdL.takeW (i:=16) (d:=(some 6)) (v:=?_) rfl rfl (by decide) (by kernel_rfl) (by kernel_rfl) (by kernel_rfl) (fun _ _ _ h=>h) ⟨by rfl,?_⟩ ?_
 rotate_left
 focus (intro w;go_simp;try with_reducible rfl)
 refine nw ?_
 refine OrdL.takeW (i:=17) (d:=(some 7)) (v:=?_) rfl rfl (by decide) (by kernel_rfl) (by kernel_rfl) (by kernel_rfl) (fun _ _ _ h=>h) ⟨by rfl,?_⟩ ?_
 rotate_left
 focus (intro w;go_simp;try with_reducible rfl)
 refine nw ?_
 refine OrdL.done (by kernel_rfl) ?_ _
 go_wp2_with fail
 refine(d_cmpNat' (r:= -1) (H1.out.below blq) (H2.out.below blq) (by have:=HK.out;omega) (by have:=HK.out;omega) HS.out).mono ?_
 rintro e w4 ⟨rfl,hb4⟩
 have HF4:=fgo w4 HF3
 have hz4:=HF4.out.1
 obtain⟨hl4_0,hl4_1,hl4_2⟩:=lt3 hz4
 obtain⟨_,_,_,_,_,_,_,_,_,-⟩:=HF4.out.alls 0 9
 obtain⟨_,_,_,-⟩:=HF4.out.falls 6 3
 go_wp2_with fail
 refine OrdL.begin_ (S:=fun W=>W.cell? ⟨w.heap.size,0,none⟩=some (.bool x.b)∧W.cell? ⟨w.heap.size,1,none⟩=some (.slice x.nA x.nn x.nc)∧W.cell? ⟨w.heap.size,2,none⟩=some (.slice x.dA x.dn x.dc)∧W.cell? ⟨w.heap.size+1,0,none⟩=some (.bool y.b)∧W.cell? ⟨w.heap.size+1,1,none⟩=some (.slice y.nA y.nn y.nc)∧W.cell? ⟨w.heap.size+1,2,none⟩=some (.slice y.dA y.dn y.dc)∧W.cell? ⟨w.heap.size+1+1,0,none⟩=some (.bool false)∧W.cell? ⟨w.heap.size+1+1,1,none⟩=some (.slice none 0 0)∧W.cell? ⟨w.heap.size+1+1,2,none⟩=some (.slice none 0 0)) [] [7] (by kernel_rfl) ?_ (fun hHeld=>?_)
 focus ((try dsimp only);exact(HF4.out.go blq).all 0 9)
 refine OrdL.tk 0 (some 46) ?_
 refine nw ?_
 refine OrdL.tk 1 (some 47) ?_
 refine nw ?_
 refine OrdL.tk 2 (some 48) ?_
 refine nw ?_
 refine OrdL.tk 3 (some 49) ?_
 refine nw ?_
 refine OrdL.tk 5 (some 51) ?_
 refine nw ?_
 refine OrdL.st 4 fun Kc hKc=>?_
 refine nv ?_
 go_simp
 refine(d_subNat (P:=Gp P w.heap.size 3) (K:=K+K) (H2.out.below blq) (H1.out.below blq) (Int.le_of_lt HC.out) (by have:=HK.out;omega) (gap_fresh HP.out blq arq)).mono ?_
 rintro e w5 ⟨A4,n4,c4,rfl,h4,hb5⟩
 have H4:=Lib.hid h4;clear h4
 have HF5:=fgo w5 HF4
 have hz5:=HF5.out.1
 obtain⟨hl5_0,hl5_1,hl5_2⟩:=lt3 hz5
 obtain⟨_,_,_,_,_,_,_,_,_,-⟩:=HF5.out.alls 0 9
 obtain⟨_,_,_,-⟩:=HF5.out.falls 6 3
 go_wp2_with fail
 refine hKc.out _ _ ?_ (fun hHeld=>?_)
 focus ((try dsimp only);exact(HF5.out.go blq).all 0 9)
 clear hKc Kc
 refine nw ?_
 refine OrdL.st 6 fun Kc hKc=>?_
 refine nv ?_
 go_simp
 refine(q_lowest (P:=Gp P w.heap.size 3) (K:=K+K+1) y.b ((H4.out.wide (Nat.le_succ _)).below blq) ((H3.out.wide (Nat.le_succ _)).below blq) HU.out (by have:=HK.out;omega) (gap_fresh HP.out blq arq)).mono ?_
 rintro e w6 ⟨r0,rfl,hr,hb6⟩
 have HR:=Lib.hid hr;clear hr
 have HF6:=fgo w6 HF5
 have hz6:=HF6.out.1
 obtain⟨hl6_0,hl6_1,hl6_2⟩:=lt3 hz6
 obtain⟨_,_,_,_,_,_,q6_6,q6_7,q6_8,-⟩:=HF6.out.alls 0 9
 obtain⟨_,_,_,-⟩:=HF6.out.falls 6 3
 go_wp2_with fail
 refine hKc.out _ _ ?_ (fun hHeld=>?_)
 focus ((try dsimp only);exact(HF6.out.go blq).all 0 9)
 clear hKc Kc
 refine nw ?_
 refine OrdL.last (i:=7) rfl (by decide) (by decide) (by kernel_rfl) (fun Kc hKc=>?_)
 refine nv ?_
 go_simp
 refine hKc.out _ _ ?_
 clear hKc Kc
 refine nw ?_
 refine OrdL.done (by kernel_rfl) ?_ _
 go_wp2_with fail
 refine bodyPost_ret (v:=.agg #[.bool r0.b,.slice r0.nA r0.nn r0.nc,.slice r0.dA r0.dn r0.dc]) (by simp [results,Tryz.results71,go_sem,q6_6,q6_7,q6_8]) rfl ⟨r0,rfl,IsQ.ungap (s:=w.heap.size) (n:=3) ?_,blq⟩
 rw [←HE.out];exact(((HR.out.put _ arq arq).put _ arq arq).put _ arq arq)
theorem q_Plus{x y:QV}{q p:Rat}(hx:IsQ P K w x q)(hy:IsQ P K w y p)(hK:K≤100000000)(hP:∀k,w.heap.size≤k→P k) :
 Calls Tryz.prog 71 #[.agg #[.bool x.b,.slice x.nA x.nn x.nc,.slice x.dA x.dn x.dc],.agg #[.bool y.b,.slice y.nA y.nn y.nc,.slice y.dA y.dn y.dc]] w fun e w'=>∃r:QV,e=.returned (.agg #[.bool r.b,.slice r.nA r.nn r.nc,.slice r.dA r.dn r.dc])∧IsQ P (K+K+1) w' r (q+p)∧Below w.heap.size w w':=by
 by_cases h:x.b=y.b
 · exact q_Plus_s hx hy hK hP h
 · rcases Int.lt_or_le ((q.num.natAbs:Int)*(p.den:Int)) ((p.num.natAbs:Int)*(q.den:Int))with hc|hc
   · exact q_Plus_r hx hy hK hP h hc
   · exact q_Plus_l hx hy hK hP h hc
theorem q_Sign'{x:QV}{q:Rat}{b:Int}(hx:IsQ P K w x q)(hK:K≤1000000000)(hb:q.num.sign=b) :
 Calls Tryz.prog 56 #[.agg #[.bool x.b,.slice x.nA x.nn x.nc,.slice x.dA x.dn x.dc]] w fun e w'=>e=.returned (.int .i64 b)∧Below w.heap.size w w':=hb▸q_Sign hx hK
end
end Go.Proofs.YtpdghgfbfmaplaaGreatDoor.Rf
end
