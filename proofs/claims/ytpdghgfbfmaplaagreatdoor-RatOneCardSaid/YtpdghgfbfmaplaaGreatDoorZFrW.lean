/- Lemmas for RatOne and RatBetween. -/
import Derived.Test.YtpdghgfbfmaplaaGreatDoorZRatD
import Derived.Test.YtpdghgfbfmaplaaGreatDoorZOrdL
import Derived.IntWalk
set_option maxRecDepth 100000
set_option maxHeartbeats 8000000
section
set_option linter.unusedVariables false
set_option linter.unusedSimpArgs false
namespace Go.Proofs.YtpdghgfbfmaplaaGreatDoor.Wh
open Go.RowKit Go.Proofs.YtpdghgfbfmaplaaGreatDoorW.PrintWords Go.Proofs.YtpdghgfbfmaplaaGreatDoor.Num Go.Proofs.YtpdghgfbfmaplaaGreatDoor.Dec
section
variable {P P':Nat→Prop} {K K':Nat} {w W:World}
theorem IsF.ex{x:FV}{q:Rat}{g:Nat}(h:IsF P K w x q)(hg:w.heap.size≤g):IsF (Ex P g) K w x q:=⟨h.1.ex hg,h.2.ex hg⟩
theorem pow_parts(q:Rat)(k:Nat):(q^k).num=q.num^k∧(q^k).den=q.den^k:=⟨Rat.num_pow ..,Rat.den_pow ..⟩
def PowRel(P:Nat→Prop)(K n g:Nat)(w:World)(x:FV)(q:Rat)(v:Value)(W:World):Prop :=
 ∃(k:Nat) (o:FV),v=.int .i64 k∧k≤n∧IsW P (3+k*K) W o.num (q.num^k)∧IsW P (3+k*K) W o.den ((q.den:Int)^k)∧IsF P K W x q∧Fr [(g,0,(.bool o.num.b)),(g,1,(.slice o.num.A o.num.n o.num.c)),(g,2,(.bool o.den.b)),(g,3,(.slice o.den.A o.den.n o.den.c)),(w.heap.size,0,(.bool x.num.b)),(w.heap.size,1,(.slice x.num.A x.num.n x.num.c)),(w.heap.size,2,(.bool x.den.b)),(w.heap.size,3,(.slice x.den.A x.den.n x.den.c)),(w.heap.size+1,0,(.bool false)),(w.heap.size+1,1,(.slice none 0 0)),(w.heap.size+1,2,(.bool false)),(w.heap.size+1,3,(.slice none 0 0))] (g+1) W∧Below w.heap.size w W
theorem c_FPow_p{x:FV}{q:Rat}{N:Nat}(hx:IsF P K w x q)(hK:K≤1000000)(hn:N≤1000)(hP:∀k,w.heap.size≤k→P k) :
 Calls Tryz.prog 89 #[.agg #[.bool x.num.b,.slice x.num.A x.num.n x.num.c,.bool x.den.b,.slice x.den.A x.den.n x.den.c],.int .i64 (N:Int)] w fun e w'=>∃r:FV,e=.returned (.agg #[.bool r.num.b,.slice r.num.A r.num.n r.num.c,.bool r.den.b,.slice r.den.A r.den.n r.den.c])∧IsF P (3+N*(K+K+1)) w' r (q^N)∧Below w.heap.size w w':=by
 have HX:=Lib.hid (hx.gap 2)
 have HK:=Lib.hid hK
 have HP:=Lib.hid hP
 clear hx hK hP
 have hlt0:decide ((N:Int)<0)=false:=by simp
 have hN:(N:Int)≤1000:=by omega
 have HF0:=Lib.hid (show Fr [(w.heap.size,0,(.bool x.num.b)),(w.heap.size,1,(.slice x.num.A x.num.n x.num.c)),(w.heap.size,2,(.bool x.den.b)),(w.heap.size,3,(.slice x.den.A x.den.n x.den.c)),(w.heap.size+1,0,(.bool false)),(w.heap.size+1,1,(.slice none 0 0)),(w.heap.size+1,2,(.bool false)),(w.heap.size+1,3,(.slice none 0 0))] (w.heap.size+1+1) ((w.alloc (.cells #[.bool x.num.b,.slice x.num.A x.num.n x.num.c,.bool x.den.b,.slice x.den.A x.den.n x.den.c] 52)).alloc (.cells #[.bool false,.slice none 0 0,.bool false,.slice none 0 0] 52))from frq)
 go_enter Tryz.func89,Tryz.ntmps89
 go_wp2_with fail
 refine(c_FOf (P:=Gp P w.heap.size 2) 1 (by omega) (by omega) (gap_fresh HP.out blq arq)).mono ?_
 rintro e w1 ⟨r0,rfl,hr,hb1⟩
 obtain⟨KY,hKY⟩:∃KY,KY=K+K+1:=⟨_,rfl⟩
 have HKE:=Lib.hid hKY
 have HKY:=Lib.hid (show KY≤3000000 by have:=HK.out;omega)
 have HR:=Lib.hid (show IsF (Gp P w.heap.size 2) 3 w1 r0 1 from hr)
 have HY:=Lib.hid (show IsF (Gp P w.heap.size 2) KY w1 x q from(HX.out.wide (by omega)).below blq)
 have HF1:=Lib.hid (HF0.out.go hb1)
 have HB1:=Lib.hid (show Below w.heap.size w w1 from blq)
 clear hKY hr hb1 HX HF0
 obtain⟨p,hp⟩:∃p,p=q:=⟨_,rfl⟩
 have HPQ:=Lib.hid hp
 rw [←hp]at HY
 clear hp
 obtain⟨g,hg⟩:∃g,g=w1.heap.size:=⟨_,rfl⟩
 have hz1:=HF1.out.1
 have HR0:=Lib.hid (show PowRel (Ex (Gp P w.heap.size 2) w1.heap.size) KY N w1.heap.size w x p (.int .i64 (0:Nat)) (w1.alloc (.cells #[.bool r0.num.b,.slice r0.num.A r0.num.n r0.num.c,.bool r0.den.b,.slice r0.den.A r0.den.n r0.den.c] 52))from ⟨0,r0,rfl,Nat.zero_le _,by rw [Nat.zero_mul,Int.pow_zero];exact(((show IsW _ 3 w1 r0.num 1 from HR.out.hn).ex (Nat.le_refl _)).below blq),by rw [Nat.zero_mul,Int.pow_zero];exact(((show IsW _ 3 w1 r0.den 1 from HR.out.hd).ex (Nat.le_refl _)).below blq),((HY.out.ex (Nat.le_refl _)).below blq),(HF1.out.new4 _ _ _ _ 52),(have hb9:=HB1.out;blq)⟩)
 clear HR HY HF1 HB1
 go_wp2_with fail
 go_loopw [15] (fun v W=>PowRel (Ex (Gp P w.heap.size 2) w1.heap.size) KY N w1.heap.size w x p v W) (fun v _=>N-(intOf v).toNat)
 case atStart=>exact HR0.out
 case round =>
  obtain⟨k,o,rfl,hk,hn,hd,hx,hf,hb⟩:=hrel;have hzr:w1.heap.size+1≤wr.heap.size:=hf.1;have q0_0:=hf.get 0 rfl;have z0_0:=hf.frz 0 rfl;have q0_1:=hf.get 1 rfl;have z0_1:=hf.frz 1 rfl;have q0_2:=hf.get 2 rfl;have z0_2:=hf.frz 2 rfl;have q0_3:=hf.get 3 rfl;have z0_3:=hf.frz 3 rfl;have q0_4:=hf.get 4 rfl;have z0_4:=hf.frz 4 rfl;have q0_5:=hf.get 5 rfl;have z0_5:=hf.frz 5 rfl;have q0_6:=hf.get 6 rfl;have z0_6:=hf.frz 6 rfl;have q0_7:=hf.get 7 rfl;have z0_7:=hf.frz 7 rfl;have q0_8:=hf.get 8 rfl;have z0_8:=hf.frz 8 rfl;have q0_9:=hf.get 9 rfl;have z0_9:=hf.frz 9 rfl;have q0_10:=hf.get 10 rfl;have z0_10:=hf.frz 10 rfl;have q0_11:=hf.get 11 rfl;have z0_11:=hf.frz 11 rfl;have HN:=Lib.hid hn;have HD:=Lib.hid hd;have HX:=Lib.hid hx;have HF:=Lib.hid hf;have HB:=Lib.hid hb;clear hn hd hx hf hb;by_cases hlt:k<N
  · have hlt':(k:Int)<(N:Int):=by omega
    have HPW:=Lib.hid (show ∀k',wr.heap.size≤k'→Ex (Gp P w.heap.size 2) w1.heap.size k' from fun k' hk'=>⟨⟨HP.out k' (Nat.le_trans HB.out.size hk'),.inr (by omega)⟩,by omega⟩);go_wp2_with fail
    refine OrdL.begin_ (S:=fun W=>W.cell? ⟨w1.heap.size,0,none⟩=some (.bool o.num.b)∧W.cell? ⟨w1.heap.size,1,none⟩=some (.slice o.num.A o.num.n o.num.c)∧W.cell? ⟨w1.heap.size,2,none⟩=some (.bool o.den.b)∧W.cell? ⟨w1.heap.size,3,none⟩=some (.slice o.den.A o.den.n o.den.c)∧W.cell? ⟨w.heap.size,0,none⟩=some (.bool x.num.b)∧W.cell? ⟨w.heap.size,1,none⟩=some (.slice x.num.A x.num.n x.num.c)∧W.cell? ⟨w.heap.size,2,none⟩=some (.bool x.den.b)∧W.cell? ⟨w.heap.size,3,none⟩=some (.slice x.den.A x.den.n x.den.c)) [] [11] (by kernel_rfl) ?_ (fun hHeld=>?_);focus ((try dsimp only);exact⟨(HF.out.go blq).get 0 rfl,(HF.out.go blq).get 1 rfl,(HF.out.go blq).get 2 rfl,(HF.out.go blq).get 3 rfl,(HF.out.go blq).get 4 rfl,(HF.out.go blq).get 5 rfl,(HF.out.go blq).get 6 rfl,(HF.out.go blq).get 7 rfl⟩)
    refine OrdL.tk 0 (some 17) ?_;refine nw ?_;refine OrdL.tk 1 (some 18) ?_;refine nw ?_;refine OrdL.tk 2 (some 19) ?_;refine nw ?_;refine OrdL.tk 3 (some 20) ?_;refine nw ?_;refine OrdL.tk 5 (some 22) ?_;refine nw ?_;refine OrdL.tk 6 (some 23) ?_;refine nw ?_;refine OrdL.tk 7 (some 24) ?_;refine nw ?_;refine OrdL.tk 8 (some 25) ?_;refine nw ?_;refine OrdL.st 4 fun Kc hKc=>?_
    refine nv ?_;go_simp
    refine(c_Mul (P:=Ex (Gp P w.heap.size 2) w1.heap.size) (HN.out.below blq) (HX.out.hn.below blq) (show 3+k*KY≤100000000000 from by have:=HKY.out;have:k*KY≤1000*3000000:=Nat.mul_le_mul (by omega) (by omega);omega) (by have:=HKY.out;omega) (fun k' hk'=>HPW.out k' (Nat.le_trans (by simp) hk'))).mono ?_;rintro e w2 ⟨m1,rfl,hm1,hb2⟩;have HM1:=Lib.hid hm1;clear hm1;go_wp2_with fail
    refine hKc.out _ _ ?_ (fun hHeld=>?_);focus ((try dsimp only);exact⟨(HF.out.go blq).get 0 rfl,(HF.out.go blq).get 1 rfl,(HF.out.go blq).get 2 rfl,(HF.out.go blq).get 3 rfl,(HF.out.go blq).get 4 rfl,(HF.out.go blq).get 5 rfl,(HF.out.go blq).get 6 rfl,(HF.out.go blq).get 7 rfl⟩)
    clear hKc Kc;refine nw ?_;refine OrdL.st 9 fun Kc hKc=>?_
    refine nv ?_;go_simp
    refine(c_Mul (P:=Ex (Gp P w.heap.size 2) w1.heap.size) (HD.out.below blq) (HX.out.hd.below blq) (show 3+k*KY≤100000000000 from by have:=HKY.out;have:k*KY≤1000*3000000:=Nat.mul_le_mul (by omega) (by omega);omega) (by have:=HKY.out;omega) (fun k' hk'=>HPW.out k' (Nat.le_trans (by have:=hb2.size;simp at this;omega) hk'))).mono ?_;rintro e w3 ⟨m2,rfl,hm2,hb3⟩;have HM2:=Lib.hid hm2;have HF3:=Lib.hid (show Fr [(w1.heap.size,0,(.bool o.num.b)),(w1.heap.size,1,(.slice o.num.A o.num.n o.num.c)),(w1.heap.size,2,(.bool o.den.b)),(w1.heap.size,3,(.slice o.den.A o.den.n o.den.c)),(w.heap.size,0,(.bool x.num.b)),(w.heap.size,1,(.slice x.num.A x.num.n x.num.c)),(w.heap.size,2,(.bool x.den.b)),(w.heap.size,3,(.slice x.den.A x.den.n x.den.c)),(w.heap.size+1,0,(.bool false)),(w.heap.size+1,1,(.slice none 0 0)),(w.heap.size+1,2,(.bool false)),(w.heap.size+1,3,(.slice none 0 0))] (w1.heap.size+1) w3 from HF.out.go blq);clear hm2;obtain⟨_,_,_,_,_,_,_,_,_,_,_,_,-⟩:=HF3.out.alls 0 12;obtain⟨_,_,_,_,_,_,_,_,_,_,_,_,-⟩:=HF3.out.falls 0 12;go_wp2_with fail
    refine hKc.out _ _ ?_ (fun hHeld=>?_);focus ((try dsimp only);exact⟨(HF.out.go blq).get 0 rfl,(HF.out.go blq).get 1 rfl,(HF.out.go blq).get 2 rfl,(HF.out.go blq).get 3 rfl,(HF.out.go blq).get 4 rfl,(HF.out.go blq).get 5 rfl,(HF.out.go blq).get 6 rfl,(HF.out.go blq).get 7 rfl⟩)
    clear hKc Kc;refine nw ?_;refine OrdL.tk 10 (some 27) ?_;refine nw ?_;refine OrdL.last (i:=11) rfl (by decide) (by decide) (by kernel_rfl) (fun Kc hKc=>?_);refine nv ?_;go_simp
    refine hKc.out _ _ ?_;clear hKc Kc;refine nw ?_;refine OrdL.done (by kernel_rfl) ?_ _;go_wp2_with fail
    go_roundw
    case rel =>
     refine⟨k+1,⟨m1,m2⟩,by go_num,hlt,?_,?_,?_,?_,?_⟩
     · rw [Int.pow_succ,show 3+(k+1)*KY=3+k*KY+KY by rw [Nat.add_mul];omega];exact((((HM1.out.below hb3).set _ _).set _ _).set _ _).set _ _
     · rw [Int.pow_succ,show 3+(k+1)*KY=3+k*KY+KY by rw [Nat.add_mul];omega];exact(((HM2.out.set _ _).set _ _).set _ _).set _ _
     · exact⟨((((HX.out.hn.below blq).set _ _).set _ _).set _ _).set _ _,((((HX.out.hd.below blq).set _ _).set _ _).set _ _).set _ _⟩
     · have h9:=(((HF3.out.sets w1.heap.size 0 (.bool m1.b)).sets w1.heap.size 1 (.slice m1.A m1.n m1.c)).sets w1.heap.size 2 (.bool m2.b)).sets w1.heap.size 3 (.slice m2.A m2.n m2.c);exact h9.eq (by simp [show ¬w.heap.size=w1.heap.size by omega,show ¬w.heap.size+1=w1.heap.size by omega])
     · have hb9:=HB.out;exact blq
    case measure=>simp [intOf];omega
  · obtain rfl:k=N:=by omega
    go_wp2_with fail
    refine bodyPost_ret (v:=.agg #[.bool o.num.b,.slice o.num.A o.num.n o.num.c,.bool o.den.b,.slice o.den.A o.den.n o.den.c]) (by simp [results,Tryz.results89,go_sem,q0_8,q0_9,q0_10,q0_11]) rfl ⟨o,rfl,⟨?_,?_⟩,?_⟩
    · rw [(pow_parts _ k).1,←HPQ.out,←HKE.out];exact IsW.ungap (s:=w.heap.size) (n:=2) ((((HN.out.out.put _ arq arq).put _ arq arq).put _ arq arq).put _ arq arq)
    · rw [(pow_parts _ k).2,Int.natCast_pow,←HPQ.out,←HKE.out];exact IsW.ungap (s:=w.heap.size) (n:=2) ((((HD.out.out.put _ arq arq).put _ arq arq).put _ arq arq).put _ arq arq)
    · have hb9:=HB.out;exact blq
theorem c_FPow_m{x:FV}{q:Rat}{N:Nat}(hx:IsF P K w x q)(hK:K≤1000000)(hK3:3≤K)(hn0:0<N)(hn:N≤1000)(hq:q≠0)(hP:∀k,w.heap.size≤k→P k) :
 Calls Tryz.prog 89 #[.agg #[.bool x.num.b,.slice x.num.A x.num.n x.num.c,.bool x.den.b,.slice x.den.A x.den.n x.den.c],.int .i64 (-(N:Int))] w fun e w'=>∃r:FV,e=.returned (.agg #[.bool r.num.b,.slice r.num.A r.num.n r.num.c,.bool r.den.b,.slice r.den.A r.den.n r.den.c])∧IsF P (3+N*(K+K+1)) w' r ((1/q)^N)∧Below w.heap.size w w':=by
 have HX:=Lib.hid (hx.gap 2)
 have HK:=Lib.hid hK
 have HK3:=Lib.hid hK3
 have HQ0:=Lib.hid hq
 have HP:=Lib.hid hP
 clear hx hK hK3 hP hq
 have hlt0:decide (-(N:Int)<0)=true:=by simp;omega
 have hN0:(0:Int)≤(N:Int):=by omega
 have hN9:(N:Int)≤1000:=by omega
 have hneg:IntKind.i64.wrap (N:Int)=(N:Int):=IntWalk.i64_in (N:Int) ⟨by omega,by omega⟩
 have HF0:=Lib.hid (show Fr [(w.heap.size,0,(.bool x.num.b)),(w.heap.size,1,(.slice x.num.A x.num.n x.num.c)),(w.heap.size,2,(.bool x.den.b)),(w.heap.size,3,(.slice x.den.A x.den.n x.den.c)),(w.heap.size+1,0,(.bool false)),(w.heap.size+1,1,(.slice none 0 0)),(w.heap.size+1,2,(.bool false)),(w.heap.size+1,3,(.slice none 0 0))] (w.heap.size+1+1) ((w.alloc (.cells #[.bool x.num.b,.slice x.num.A x.num.n x.num.c,.bool x.den.b,.slice x.den.A x.den.n x.den.c] 52)).alloc (.cells #[.bool false,.slice none 0 0,.bool false,.slice none 0 0] 52))from frq)
 go_enter Tryz.func89,Tryz.ntmps89
 go_wp2_with fail
 refine OrdL.begin_ (S:=fun W=>W.cell? ⟨w.heap.size,0,none⟩=some (.bool x.num.b)∧W.cell? ⟨w.heap.size,1,none⟩=some (.slice x.num.A x.num.n x.num.c)∧W.cell? ⟨w.heap.size,2,none⟩=some (.bool x.den.b)∧W.cell? ⟨w.heap.size,3,none⟩=some (.slice x.den.A x.den.n x.den.c)) [3,4] [5,6] (by kernel_rfl) ?_ (fun hHeld=>?_)
 focus ((try dsimp only);exact(HF0.out.go blq).all 0 4)
 refine OrdL.takeW (i:=3) (d:=(some 11)) (v:=?_) rfl rfl (by decide) (by kernel_rfl) (by kernel_rfl) (by kernel_rfl) (fun _ _ _ h=>h) ⟨by rfl,?_⟩ ?_
 rotate_left
 focus (intro w;go_simp;try with_reducible rfl)
 refine nw ?_
 refine OrdL.takeW (i:=4) (d:=(some 12)) (v:=?_) rfl rfl (by decide) (by kernel_rfl) (by kernel_rfl) (by kernel_rfl) (fun _ _ _ h=>h) ⟨by rfl,?_⟩ ?_
 rotate_left
 focus (intro w;go_simp;try with_reducible rfl)
 refine nw ?_
 refine OrdL.tk 1 (some 9) ?_
 refine nw ?_
 refine OrdL.st 0 fun Kc hKc=>?_
 refine nv ?_
 go_simp
 refine(c_FOf (P:=Gp P w.heap.size 2) 1 (by omega) (by omega) (gap_fresh HP.out blq arq)).mono ?_
 rintro e wa ⟨one,rfl,hone,hba⟩
 have HONE:=Lib.hid hone
 clear hone
 go_wp2_with fail
 refine hKc.out _ _ ?_ (fun hHeld=>?_)
 focus ((try dsimp only);exact(HF0.out.go blq).all 0 4)
 clear hKc Kc
 refine nw ?_
 refine OrdL.st 2 fun Kc hKc=>?_
 refine nv ?_
 go_simp
 refine(c_FDiv (P:=Gp P w.heap.size 2) (K:=K) (HONE.out.wide HK3.out) (HX.out.below blq) HQ0.out (by have:=HK.out;omega) (gap_fresh HP.out blq (by have:=hba.size;have:=HF0.out.1;simp at this;simp at *;omega))).mono ?_
 rintro e wb ⟨y,rfl,hy,hbb⟩
 have HY0:=Lib.hid hy
 have HFB:=fgo wb HF0
 have HBB:=Lib.hid (show Below w.heap.size w wb from blq)
 clear hy
 obtain⟨qb_0,qb_1,qb_2,qb_3,-⟩:=HFB.out.alls 0 4
 obtain⟨zb_0,zb_1,zb_2,zb_3,-⟩:=HFB.out.falls 0 4
 have hlb:w.heap.size+1+1≤wb.heap.size:=HFB.out.1
 go_wp2_with fail
 refine hKc.out _ _ ?_ (fun hHeld=>?_)
 focus ((try dsimp only);exact(HF0.out.go blq).all 0 4)
 clear hKc Kc
 refine nw ?_
 refine OrdL.last (i:=5) rfl (by decide) (by decide) (by kernel_rfl) (fun Kc hKc=>?_)
 refine nv ?_
 go_simp
 refine hKc.out _ _ ?_
 clear hKc Kc
 refine nw ?_
 refine OrdL.last (i:=6) rfl (by decide) (by decide) (by kernel_rfl) (fun Kc hKc=>?_)
 refine nv ?_
 go_simp
 refine hKc.out _ _ ?_
 clear hKc Kc
 refine nw ?_
 refine OrdL.done (by kernel_rfl) ?_ _
 obtain⟨W2,hW2⟩:∃W2,W2=(((wb.setCell ⟨w.heap.size,0,none⟩ (.bool y.num.b)).setCell ⟨w.heap.size,1,none⟩ (.slice y.num.A y.num.n y.num.c)).setCell ⟨w.heap.size,2,none⟩ (.bool y.den.b)).setCell ⟨w.heap.size,3,none⟩ (.slice y.den.A y.den.n y.den.c):=⟨_,rfl⟩
 have HY1:=Lib.hid (show IsF (Gp P w.heap.size 2) (K+K+1) W2 y (1/q)from by rw [hW2];exact(((HY0.out.put _ arq arq).put _ arq arq).put _ arq arq).put _ arq arq)
 have HF2:=Lib.hid (show Fr [(w.heap.size,0,(.bool y.num.b)),(w.heap.size,1,(.slice y.num.A y.num.n y.num.c)),(w.heap.size,2,(.bool y.den.b)),(w.heap.size,3,(.slice y.den.A y.den.n y.den.c)),(w.heap.size+1,0,(.bool false)),(w.heap.size+1,1,(.slice none 0 0)),(w.heap.size+1,2,(.bool false)),(w.heap.size+1,3,(.slice none 0 0))] (w.heap.size+1+1) W2 from by rw [hW2];exact(((HFB.out.sets w.heap.size 0 (.bool y.num.b)).sets w.heap.size 1 (.slice y.num.A y.num.n y.num.c)).sets w.heap.size 2 (.bool y.den.b)).sets w.heap.size 3 (.slice y.den.A y.den.n y.den.c) |>.eq (by simp))
 have HB2:=Lib.hid (show Below w.heap.size w W2 from by rw [hW2];have hb9:=HBB.out;exact blq)
 rw [←hW2]
 clear hW2 HY0 HFB HBB HX HF0 HONE
 have hN:(N:Int)≤1000:=by omega
 clear qb_0 zb_0
 clear qb_1 zb_1
 clear qb_2 zb_2
 clear qb_3 zb_3
 go_wp2_with fail
 refine(c_FOf (P:=Gp P w.heap.size 2) 1 (by omega) (by omega) (gap_fresh HP.out HB2.out (by have:=HF2.out.1;omega))).mono ?_
 rintro e w1 ⟨r0,rfl,hr,hb1⟩
 obtain⟨KY,hKY⟩:∃KY,KY=K+K+1:=⟨_,rfl⟩
 have HKE:=Lib.hid hKY
 have HKY:=Lib.hid (show KY≤3000000 by have:=HK.out;omega)
 have HR:=Lib.hid (show IsF (Gp P w.heap.size 2) 3 w1 r0 1 from hr)
 have HY:=Lib.hid (show IsF (Gp P w.heap.size 2) KY w1 y (1/q)from by rw [hKY];exact HY1.out.below hb1)
 have HF1:=Lib.hid (HF2.out.go hb1)
 have HB1:=Lib.hid (show Below w.heap.size w w1 from bl_call HB2.out hb1)
 clear hKY hr hb1 HY1 HF2 HB2
 obtain⟨p,hp⟩:∃p,p=1/q:=⟨_,rfl⟩
 have HPQ:=Lib.hid hp
 rw [←hp]at HY
 clear hp
 obtain⟨g,hg⟩:∃g,g=w1.heap.size:=⟨_,rfl⟩
 have hz1:=HF1.out.1
 have HR0:=Lib.hid (show PowRel (Ex (Gp P w.heap.size 2) w1.heap.size) KY N w1.heap.size w y p (.int .i64 (0:Nat)) (w1.alloc (.cells #[.bool r0.num.b,.slice r0.num.A r0.num.n r0.num.c,.bool r0.den.b,.slice r0.den.A r0.den.n r0.den.c] 52))from ⟨0,r0,rfl,Nat.zero_le _,by rw [Nat.zero_mul,Int.pow_zero];exact(((show IsW _ 3 w1 r0.num 1 from HR.out.hn).ex (Nat.le_refl _)).below blq),by rw [Nat.zero_mul,Int.pow_zero];exact(((show IsW _ 3 w1 r0.den 1 from HR.out.hd).ex (Nat.le_refl _)).below blq),((HY.out.ex (Nat.le_refl _)).below blq),(HF1.out.new4 _ _ _ _ 52),(have hb9:=HB1.out;blq)⟩)
 clear HR HY HF1 HB1
 go_wp2_with fail
 go_loopw [15] (fun v W=>PowRel (Ex (Gp P w.heap.size 2) w1.heap.size) KY N w1.heap.size w y p v W) (fun v _=>N-(intOf v).toNat)
 case atStart=>exact HR0.out
 case round =>
  obtain⟨k,o,rfl,hk,hn,hd,hx,hf,hb⟩:=hrel;have hzr:w1.heap.size+1≤wr.heap.size:=hf.1;have q0_0:=hf.get 0 rfl;have z0_0:=hf.frz 0 rfl;have q0_1:=hf.get 1 rfl;have z0_1:=hf.frz 1 rfl;have q0_2:=hf.get 2 rfl;have z0_2:=hf.frz 2 rfl;have q0_3:=hf.get 3 rfl;have z0_3:=hf.frz 3 rfl;have q0_4:=hf.get 4 rfl;have z0_4:=hf.frz 4 rfl;have q0_5:=hf.get 5 rfl;have z0_5:=hf.frz 5 rfl;have q0_6:=hf.get 6 rfl;have z0_6:=hf.frz 6 rfl;have q0_7:=hf.get 7 rfl;have z0_7:=hf.frz 7 rfl;have q0_8:=hf.get 8 rfl;have z0_8:=hf.frz 8 rfl;have q0_9:=hf.get 9 rfl;have z0_9:=hf.frz 9 rfl;have q0_10:=hf.get 10 rfl;have z0_10:=hf.frz 10 rfl;have q0_11:=hf.get 11 rfl;have z0_11:=hf.frz 11 rfl;have HN:=Lib.hid hn;have HD:=Lib.hid hd;have HX:=Lib.hid hx;have HF:=Lib.hid hf;have HB:=Lib.hid hb;clear hn hd hx hf hb;by_cases hlt:k<N
  · have hlt':(k:Int)<(N:Int):=by omega
    have HPW:=Lib.hid (show ∀k',wr.heap.size≤k'→Ex (Gp P w.heap.size 2) w1.heap.size k' from fun k' hk'=>⟨⟨HP.out k' (Nat.le_trans HB.out.size hk'),.inr (by omega)⟩,by omega⟩);go_wp2_with fail
    refine OrdL.begin_ (S:=fun W=>W.cell? ⟨w1.heap.size,0,none⟩=some (.bool o.num.b)∧W.cell? ⟨w1.heap.size,1,none⟩=some (.slice o.num.A o.num.n o.num.c)∧W.cell? ⟨w1.heap.size,2,none⟩=some (.bool o.den.b)∧W.cell? ⟨w1.heap.size,3,none⟩=some (.slice o.den.A o.den.n o.den.c)∧W.cell? ⟨w.heap.size,0,none⟩=some (.bool y.num.b)∧W.cell? ⟨w.heap.size,1,none⟩=some (.slice y.num.A y.num.n y.num.c)∧W.cell? ⟨w.heap.size,2,none⟩=some (.bool y.den.b)∧W.cell? ⟨w.heap.size,3,none⟩=some (.slice y.den.A y.den.n y.den.c)) [] [11] (by kernel_rfl) ?_ (fun hHeld=>?_);focus ((try dsimp only);exact⟨(HF.out.go blq).get 0 rfl,(HF.out.go blq).get 1 rfl,(HF.out.go blq).get 2 rfl,(HF.out.go blq).get 3 rfl,(HF.out.go blq).get 4 rfl,(HF.out.go blq).get 5 rfl,(HF.out.go blq).get 6 rfl,(HF.out.go blq).get 7 rfl⟩)
    refine OrdL.tk 0 (some 17) ?_;refine nw ?_;refine OrdL.tk 1 (some 18) ?_;refine nw ?_;refine OrdL.tk 2 (some 19) ?_;refine nw ?_;refine OrdL.tk 3 (some 20) ?_;refine nw ?_;refine OrdL.tk 5 (some 22) ?_;refine nw ?_;refine OrdL.tk 6 (some 23) ?_;refine nw ?_;refine OrdL.tk 7 (some 24) ?_;refine nw ?_;refine OrdL.tk 8 (some 25) ?_;refine nw ?_;refine OrdL.st 4 fun Kc hKc=>?_
    refine nv ?_;go_simp
    refine(c_Mul (P:=Ex (Gp P w.heap.size 2) w1.heap.size) (HN.out.below blq) (HX.out.hn.below blq) (show 3+k*KY≤100000000000 from by have:=HKY.out;have:k*KY≤1000*3000000:=Nat.mul_le_mul (by omega) (by omega);omega) (by have:=HKY.out;omega) (fun k' hk'=>HPW.out k' (Nat.le_trans (by simp) hk'))).mono ?_;rintro e w2 ⟨m1,rfl,hm1,hb2⟩;have HM1:=Lib.hid hm1;clear hm1;go_wp2_with fail
    refine hKc.out _ _ ?_ (fun hHeld=>?_);focus ((try dsimp only);exact⟨(HF.out.go blq).get 0 rfl,(HF.out.go blq).get 1 rfl,(HF.out.go blq).get 2 rfl,(HF.out.go blq).get 3 rfl,(HF.out.go blq).get 4 rfl,(HF.out.go blq).get 5 rfl,(HF.out.go blq).get 6 rfl,(HF.out.go blq).get 7 rfl⟩)
    clear hKc Kc;refine nw ?_;refine OrdL.st 9 fun Kc hKc=>?_
    refine nv ?_;go_simp
    refine(c_Mul (P:=Ex (Gp P w.heap.size 2) w1.heap.size) (HD.out.below blq) (HX.out.hd.below blq) (show 3+k*KY≤100000000000 from by have:=HKY.out;have:k*KY≤1000*3000000:=Nat.mul_le_mul (by omega) (by omega);omega) (by have:=HKY.out;omega) (fun k' hk'=>HPW.out k' (Nat.le_trans (by have:=hb2.size;simp at this;omega) hk'))).mono ?_;rintro e w3 ⟨m2,rfl,hm2,hb3⟩;have HM2:=Lib.hid hm2;have HF3:=Lib.hid (show Fr [(w1.heap.size,0,(.bool o.num.b)),(w1.heap.size,1,(.slice o.num.A o.num.n o.num.c)),(w1.heap.size,2,(.bool o.den.b)),(w1.heap.size,3,(.slice o.den.A o.den.n o.den.c)),(w.heap.size,0,(.bool y.num.b)),(w.heap.size,1,(.slice y.num.A y.num.n y.num.c)),(w.heap.size,2,(.bool y.den.b)),(w.heap.size,3,(.slice y.den.A y.den.n y.den.c)),(w.heap.size+1,0,(.bool false)),(w.heap.size+1,1,(.slice none 0 0)),(w.heap.size+1,2,(.bool false)),(w.heap.size+1,3,(.slice none 0 0))] (w1.heap.size+1) w3 from HF.out.go blq);clear hm2;obtain⟨_,_,_,_,_,_,_,_,_,_,_,_,-⟩:=HF3.out.alls 0 12;obtain⟨_,_,_,_,_,_,_,_,_,_,_,_,-⟩:=HF3.out.falls 0 12;go_wp2_with fail
    refine hKc.out _ _ ?_ (fun hHeld=>?_);focus ((try dsimp only);exact⟨(HF.out.go blq).get 0 rfl,(HF.out.go blq).get 1 rfl,(HF.out.go blq).get 2 rfl,(HF.out.go blq).get 3 rfl,(HF.out.go blq).get 4 rfl,(HF.out.go blq).get 5 rfl,(HF.out.go blq).get 6 rfl,(HF.out.go blq).get 7 rfl⟩)
    clear hKc Kc;refine nw ?_;refine OrdL.tk 10 (some 27) ?_;refine nw ?_;refine OrdL.last (i:=11) rfl (by decide) (by decide) (by kernel_rfl) (fun Kc hKc=>?_);refine nv ?_;go_simp
    refine hKc.out _ _ ?_;clear hKc Kc;refine nw ?_;refine OrdL.done (by kernel_rfl) ?_ _;go_wp2_with fail
    go_roundw
    case rel =>
     refine⟨k+1,⟨m1,m2⟩,by go_num,hlt,?_,?_,?_,?_,?_⟩
     · rw [Int.pow_succ,show 3+(k+1)*KY=3+k*KY+KY by rw [Nat.add_mul];omega];exact((((HM1.out.below hb3).set _ _).set _ _).set _ _).set _ _
     · rw [Int.pow_succ,show 3+(k+1)*KY=3+k*KY+KY by rw [Nat.add_mul];omega];exact(((HM2.out.set _ _).set _ _).set _ _).set _ _
     · exact⟨((((HX.out.hn.below blq).set _ _).set _ _).set _ _).set _ _,((((HX.out.hd.below blq).set _ _).set _ _).set _ _).set _ _⟩
     · have h9:=(((HF3.out.sets w1.heap.size 0 (.bool m1.b)).sets w1.heap.size 1 (.slice m1.A m1.n m1.c)).sets w1.heap.size 2 (.bool m2.b)).sets w1.heap.size 3 (.slice m2.A m2.n m2.c);exact h9.eq (by simp [show ¬w.heap.size=w1.heap.size by omega,show ¬w.heap.size+1=w1.heap.size by omega])
     · have hb9:=HB.out;exact blq
    case measure=>simp [intOf];omega
  · obtain rfl:k=N:=by omega
    go_wp2_with fail
    refine bodyPost_ret (v:=.agg #[.bool o.num.b,.slice o.num.A o.num.n o.num.c,.bool o.den.b,.slice o.den.A o.den.n o.den.c]) (by simp [results,Tryz.results89,go_sem,q0_8,q0_9,q0_10,q0_11]) rfl ⟨o,rfl,⟨?_,?_⟩,?_⟩
    · rw [(pow_parts _ k).1,←HPQ.out,←HKE.out];exact IsW.ungap (s:=w.heap.size) (n:=2) ((((HN.out.out.put _ arq arq).put _ arq arq).put _ arq arq).put _ arq arq)
    · rw [(pow_parts _ k).2,Int.natCast_pow,←HPQ.out,←HKE.out];exact IsW.ungap (s:=w.heap.size) (n:=2) ((((HD.out.out.put _ arq arq).put _ arq arq).put _ arq arq).put _ arq arq)
    · have hb9:=HB.out;exact blq
theorem c_FPow{x:FV}{q:Rat}{n:Int}(hx:IsF P K w x q)(hK:K≤1000000)(hK3:3≤K)(h1: -1000≤n)(h2:n≤1000)(hq:n<0→q≠0)(hP:∀k,w.heap.size≤k→P k) :
 Calls Tryz.prog 89 #[.agg #[.bool x.num.b,.slice x.num.A x.num.n x.num.c,.bool x.den.b,.slice x.den.A x.den.n x.den.c],.int .i64 n] w fun e w'=>∃r:FV,e=.returned (.agg #[.bool r.num.b,.slice r.num.A r.num.n r.num.c,.bool r.den.b,.slice r.den.A r.den.n r.den.c])∧IsF P (3+n.natAbs*(K+K+1)) w' r (powQ q n)∧Below w.heap.size w w':=by
 by_cases h0:n<0
 · obtain⟨N,hN⟩:∃N:Nat,n= -(N:Int):=⟨n.natAbs,by omega⟩;subst hN;rw [show (-(N:Int)).natAbs=N by omega,powQ,if_pos h0,show (-(N:Int)).natAbs=N by omega,show q⁻¹=1/q by rw [Rat.div_def,Rat.one_mul]];exact c_FPow_m hx hK hK3 (by omega) (by omega) (hq h0) hP
 · obtain⟨N,rfl⟩:=Int.eq_ofNat_of_zero_le (show 0≤n by omega);rw [show ((N:Int)).natAbs=N by omega,powQ,if_neg h0,show ((N:Int)).natAbs=N by omega];exact c_FPow_p hx hK (by omega) hP
end
end Go.Proofs.YtpdghgfbfmaplaaGreatDoor.Wh
end
