/- Lemmas for RatOne and RatBetween. -/
import Derived.Test.YtpdghgfbfmaplaaGreatDoorZRefU
set_option maxRecDepth 100000
set_option maxHeartbeats 8000000
section
set_option linter.unusedVariables false
set_option linter.unusedSimpArgs false
namespace Go.Proofs.YtpdghgfbfmaplaaGreatDoor.Rf
open Go.RowKit Go.Proofs.YtpdghgfbfmaplaaGreatDoorW.PrintWords Go.Proofs.YtpdghgfbfmaplaaGreatDoor.Num Go.Proofs.YtpdghgfbfmaplaaGreatDoor.PRef Go.Proofs.YtpdghgfbfmaplaaGreatDoor.WhC Go.Proofs.YtpdghgfbfmaplaaGreatDoor.Dec Go.Proofs.YtpdghgfbfmaplaaGreatDoor.Wh
section
variable {P:Nat→Prop} {K K':Nat} {w:World}
theorem pow_odd{z:Int}(hz:z<0)(k:Nat):(k%2=0→0<z^k)∧(k%2=1→z^k<0):=by
 induction k with
 | zero=>exact ⟨fun _=>by rw [Int.pow_zero];decide,fun h=>by omega⟩
 | succ k ih =>
  rw [Int.pow_succ];exact⟨fun h=>Int.mul_pos_of_neg_of_neg (ih.2 (by omega)) hz,fun h=>Int.mul_neg_of_pos_of_neg (ih.1 (by omega)) hz⟩
theorem pow_sign(p:Rat)(k:Nat):decide ((p^k).num<0)=(decide (p.num<0)&&decide (k%2=1)):=by
 rw [(pow_parts p k).1]
 by_cases h:p.num<0
 · rw [decide_eq_true h,Bool.true_and];by_cases hk:k%2=1
   · rw [decide_eq_true hk,decide_eq_true ((pow_odd h k).2 hk)]
   · rw [decide_eq_false hk,decide_eq_false];have:=(pow_odd h k).1 (by omega);omega
 · rw [decide_eq_false h,Bool.false_and,decide_eq_false];have:0≤p.num^k:=Int.pow_nonneg (by omega);omega
theorem tm_nat(k t:Nat)(h:k%2=t):(k:Int).tmod 2=t:=by
 have:((k%2:Nat):Int)=(k:Int).tmod 2:=Int.ofNat_tmod k 2
 omega
theorem q_of_pow{x:QV}{p:Rat}{k:Nat}(hn:IsD P K w x.nA x.nn x.nc ((p.num.natAbs:Int)^k))(hd:IsD P K w x.dA x.dn x.dc ((p.den:Int)^k))(hb:x.b=decide ((p^k).num<0)):IsQ P K w x (p^k):=by
 refine⟨?_,?_,hb⟩
 · rw [(pow_parts p k).1,Int.natAbs_pow,Int.natCast_pow];exact hn
 · rw [(pow_parts p k).2,Int.natCast_pow];exact hd
def PowRel(N g xb:Nat)(w:World)(y:QV)(p:Rat)(B:Bool)(v:Value)(W:World):Prop :=
 ∃(k:Nat) (o:QV),v=.int .i64 k∧k≤N∧IsD (Gp (fun _=>True) g 1) (5+k*150) W o.nA o.nn o.nc ((p.num.natAbs:Int)^k)∧IsD (Gp (fun _=>True) g 1) (5+k*150) W o.dA o.dn o.dc ((p.den:Int)^k)∧o.b=B∧IsQ (Gp (fun _=>True) g 1) 150 W y p∧Fr [(g,0,(.bool o.b)),(g,1,(.slice o.nA o.nn o.nc)),(g,2,(.slice o.dA o.dn o.dc)),(xb,0,(.bool y.b)),(xb,1,(.slice y.nA y.nn y.nc)),(xb,2,(.slice y.dA y.dn y.dc))] (g+1) W∧Below w.heap.size w W
end
section
variable {w:World}
theorem q_rPow_n(a:ByteArray)(n:Int)(ha:a.size≤140737488351232)(hq:numB a=none) :
 Calls Tryz.prog 42 #[.string a,.int .i64 n] w fun e w'=>e=.returned (.tuple #[.string (rPow a n).1,.int .i64 (rPow a n).2])∧Below w.heap.size w w':=by
 have HE:=Lib.hid (show rPow a n=(nob,1) by rw [rPow,hq])
 have HA:=Lib.hid ha
 have HQ:=Lib.hid hq
 clear ha hq
 have HF0:=Lib.hid (show Fr [] (w.heap.size) w from(Fr.nil (by simp)))
 go_enter Tryz.func42,Tryz.ntmps42
 go_wp2_with fail
 refine(q_Read_no HQ.out HA.out).mono ?_
 rintro e w1 ⟨rfl,hb1⟩
 have HF1:=fgo w1 HF0
 have hz1:=HF1.out.1
 have HFb1:=Lib.hid (HF1.out.new3 (.bool false) (.slice none 0 0) (.slice none 0 0) 60)
 go_wp2_with fail
 go_ret2
 exact⟨by rw [HE.out];rfl,blq⟩
theorem q_rPow_l(a:ByteArray)(n:Int)(ha:a.size≤140737488351232){q:Rat}(hq:numB a=some q)(hn:n< -100) :
 Calls Tryz.prog 42 #[.string a,.int .i64 n] w fun e w'=>e=.returned (.tuple #[.string (rPow a n).1,.int .i64 (rPow a n).2])∧Below w.heap.size w w':=by
 have HE:=Lib.hid (show rPow a n=(nob,3) by rw [rPow,hq];exact if_pos (by omega))
 have HA:=Lib.hid ha
 have HQ:=Lib.hid hq
 clear ha hq
 have HF0:=Lib.hid (show Fr [] (w.heap.size) w from(Fr.nil (by simp)))
 go_enter Tryz.func42,Tryz.ntmps42
 go_wp2_with fail
 refine(q_Read_yes (P:=fun _=>True) HQ.out HA.out (fun _ _=>trivial)).mono ?_
 rintro e w1 ⟨r1,rfl,hr1,hb1⟩
 have HR1:=Lib.hid hr1;clear hr1
 have HF1:=fgo w1 HF0
 have hz1:=HF1.out.1
 have HFb1:=Lib.hid (HF1.out.new3 (.bool r1.b) (.slice r1.nA r1.nn r1.nc) (.slice r1.dA r1.dn r1.dc) 60)
 go_wp2_with fail
 go_ret2
 exact⟨by rw [HE.out];rfl,blq⟩
theorem q_rPow_g(a:ByteArray)(n:Int)(ha:a.size≤140737488351232){q:Rat}(hq:numB a=some q)(hn:100<n) :
 Calls Tryz.prog 42 #[.string a,.int .i64 n] w fun e w'=>e=.returned (.tuple #[.string (rPow a n).1,.int .i64 (rPow a n).2])∧Below w.heap.size w w':=by
 have HE:=Lib.hid (show rPow a n=(nob,3) by rw [rPow,hq];exact if_pos (by omega))
 have HA:=Lib.hid ha
 have HQ:=Lib.hid hq
 clear ha hq
 have HF0:=Lib.hid (show Fr [] (w.heap.size) w from(Fr.nil (by simp)))
 go_enter Tryz.func42,Tryz.ntmps42
 go_wp2_with fail
 refine(q_Read_yes (P:=fun _=>True) HQ.out HA.out (fun _ _=>trivial)).mono ?_
 rintro e w1 ⟨r1,rfl,hr1,hb1⟩
 have HR1:=Lib.hid hr1;clear hr1
 have HF1:=fgo w1 HF0
 have hz1:=HF1.out.1
 have HFb1:=Lib.hid (HF1.out.new3 (.bool r1.b) (.slice r1.nA r1.nn r1.nc) (.slice r1.dA r1.dn r1.dc) 60)
 go_wp2_with fail
 go_ret2
 exact⟨by rw [HE.out];rfl,blq⟩
theorem q_rPow_z(a:ByteArray)(n:Int)(ha:a.size≤140737488351232){q:Rat}(hq:numB a=some q)(h1: -100≤n)(h2:n<0)(hz:q=0) :
 Calls Tryz.prog 42 #[.string a,.int .i64 n] w fun e w'=>e=.returned (.tuple #[.string (rPow a n).1,.int .i64 (rPow a n).2])∧Below w.heap.size w w':=by
 have HE:=Lib.hid (show rPow a n=(nob,12) by rw [rPow,hq];exact(if_neg (by omega)).trans (if_pos ⟨h2,hz⟩))
 have HZ:=Lib.hid (decide_eq_true hz)
 clear hz
 have HA:=Lib.hid ha
 have HQ:=Lib.hid hq
 clear ha hq
 have HF0:=Lib.hid (show Fr [] (w.heap.size) w from(Fr.nil (by simp)))
 go_enter Tryz.func42,Tryz.ntmps42
 go_wp2_with fail
 refine(q_Read_yes (P:=fun _=>True) HQ.out HA.out (fun _ _=>trivial)).mono ?_
 rintro e w1 ⟨r1,rfl,hr1,hb1⟩
 have HR1:=Lib.hid hr1;clear hr1
 have HF1:=fgo w1 HF0
 have hz1:=HF1.out.1
 have HFb1:=Lib.hid (HF1.out.new3 (.bool r1.b) (.slice r1.nA r1.nn r1.nc) (.slice r1.dA r1.dn r1.dc) 60)
 go_wp2_with fail
 refine(q_Zero (K:=75) (HR1.out.below blq) (by decide) HZ.out).mono ?_
 rintro e w2 ⟨rfl,hb2⟩
 have HF2:=fgo w2 HFb1
 have hz2:=HF2.out.1
 have hx2_0:w1.heap.size<w2.heap.size:=(by omega)
 obtain⟨_,_,_,-⟩:=HF2.out.alls 0 3
 go_wp2_with fail
 go_ret2
 exact⟨by rw [HE.out];rfl,blq⟩
theorem q_rPow_y(a:ByteArray)(n:Int)(ha:a.size≤140737488351232){q:Rat}(hq:numB a=some q)(h1: -100≤n)(h2:n≤100)(h3:¬(n<0∧q=0)) :
 Calls Tryz.prog 42 #[.string a,.int .i64 n] w fun e w'=>e=.returned (.tuple #[.string (rPow a n).1,.int .i64 (rPow a n).2])∧Below w.heap.size w w':=by
 have HE:=Lib.hid (show rPow a n=tellB (powQ q n) by rw [rPow,hq];exact(if_neg (by omega)).trans (if_neg h3))
 have HA:=Lib.hid ha
 have HQ:=Lib.hid hq
 clear ha hq
 obtain⟨N,hN⟩:∃N:Nat,N=n.natAbs:=⟨_,rfl⟩
 have hN1:N≤100:=by omega
 obtain⟨p,hp⟩:∃p,p=if n<0 then 1/q else q:=⟨_,rfl⟩
 have HPK:=Lib.hid (show powQ q n=p^N from by
  rw [hp,hN,powQ];split
  · rw [show q⁻¹=1/q by rw [Rat.div_def,Rat.one_mul]]
  · rfl)
 have HPN:=Lib.hid (show n<0→ -n=(N:Int)∧(q≠0∧p=1/q)from fun h=>⟨by omega,fun e=>h3 ⟨h,e⟩,by rw [hp,if_pos h]⟩)
 have HPP:=Lib.hid (show 0≤n→n=(N:Int)∧p=q from fun h=>⟨by omega,by rw [hp,if_neg (by omega)]⟩)
 obtain⟨bz,hbz⟩:∃b:Bool,decide (q=0)=b:=⟨_,rfl⟩
 have HZ:=Lib.hid hbz
 have HN0:=Lib.hid (show bz=true→¬n<0 from fun e h=>h3 ⟨h,of_decide_eq_true (hbz.trans e)⟩)
 obtain⟨B,hB⟩:∃B:Bool,decide ((p^N).num<0)=B:=⟨_,rfl⟩
 have HBP:=Lib.hid hB
 clear hp hN h3 hbz hB
 have HF0:=Lib.hid (show Fr [] (w.heap.size) w from(Fr.nil (by simp)))
 go_enter Tryz.func42,Tryz.ntmps42
 go_wp2_with fail
 refine(q_Read_yes (P:=fun _=>True) HQ.out HA.out (fun _ _=>trivial)).mono ?_
 rintro e w1 ⟨r1,rfl,hr1,hb1⟩
 have HR1:=Lib.hid hr1;clear hr1
 have HF1:=fgo w1 HF0
 have hz1:=HF1.out.1
 have HFb1:=Lib.hid (HF1.out.new3 (.bool r1.b) (.slice r1.nA r1.nn r1.nc) (.slice r1.dA r1.dn r1.dc) 60)
 have HR1G:=Lib.hid (HR1.out.gap 1)
 go_upto_region 6 with fail
 go_cut [28] (fun v W=>v=.bool false∧Below (w1.alloc (.cells #[.bool r1.b,.slice r1.nA r1.nn r1.nc,.slice r1.dA r1.dn r1.dc] 60)).heap.size (w1.alloc (.cells #[.bool r1.b,.slice r1.nA r1.nn r1.nc,.slice r1.dA r1.dn r1.dc] 60)) W)
 case first =>
  cases bz with
  | true =>
   have hn0:=HN0.out rfl;go_wp2_with fail
   refine(q_Zero (K:=75) (HR1.out.below blq) (by decide) HZ.out).mono ?_;rintro e w2 ⟨rfl,hb2⟩;have HF2:=fgo w2 HFb1;have hz2:=HF2.out.1;have hx2_0:w1.heap.size<w2.heap.size:=(by omega);obtain⟨q2_0,q2_1,q2_2,-⟩:=HF2.out.alls 0 3;go_wp2_with fail
   go_meet
   exact⟨by first|rfl|exact congrArg Value.bool (decide_eq_false (by omega))|fail,blq⟩
  | false =>
   go_wp2_with fail
   refine(q_Zero (K:=75) (HR1.out.below blq) (by decide) HZ.out).mono ?_;rintro e w2 ⟨rfl,hb2⟩;have HF2:=fgo w2 HFb1;have hz2:=HF2.out.1;have hx2_0:w1.heap.size<w2.heap.size:=(by omega);obtain⟨q2_0,q2_1,q2_2,-⟩:=HF2.out.alls 0 3;go_wp2_with fail
   go_meet
   exact⟨by first|rfl|exact congrArg Value.bool (decide_eq_false (by omega))|fail,blq⟩
 case rest =>
  obtain⟨rfl,hbc⟩:=hcut;obtain⟨w2,rfl⟩:∃W:World,W=wc:=⟨_,rfl⟩;have hb2:=hbc;have HF2:=fgo w2 HFb1;have hz2:=HF2.out.1;have hx2_0:w1.heap.size<w2.heap.size:=(by omega);obtain⟨q2_0,q2_1,q2_2,-⟩:=HF2.out.alls 0 3;clear hbc;go_upto_if 30 with fail
  go_cut [1] (fun v W=>∃y:QV,v=.int .i64 (N:Int)∧IsQ (fun _=>True) 150 W y p∧Fr [(w1.heap.size,0,(.bool y.b)),(w1.heap.size,1,(.slice y.nA y.nn y.nc)),(w1.heap.size,2,(.slice y.dA y.dn y.dc))] (w1.heap.size+1) W∧Below w.heap.size w W)
  case first =>
   by_cases hn:n<0
   · obtain⟨hn1,HP1⟩:=HPN.out hn;have HQ0:=Lib.hid HP1.1;have hneg:IntKind.i64.wrap (-n)=(N:Int):=by rw [←hn1];exact IntWalk.i64_in (-n) ⟨by omega,by omega⟩
     have hneg2:IntKind.i64.wrap (N:Int)=(N:Int):=IntWalk.i64_in (N:Int) ⟨by omega,by omega⟩;go_wp2_with fail
     refine OrdL.begin_ (S:=fun W=>W.cell? ⟨w1.heap.size,0,none⟩=some (.bool r1.b)∧W.cell? ⟨w1.heap.size,1,none⟩=some (.slice r1.nA r1.nn r1.nc)∧W.cell? ⟨w1.heap.size,2,none⟩=some (.slice r1.dA r1.dn r1.dc)) [] [3] (by kernel_rfl) ?_ (fun hHeld=>?_);focus ((try dsimp only);exact(HF2.out.go blq).all 0 3)
     refine OrdL.tk 1 (some 32) ?_;refine nw ?_;refine OrdL.st 0 fun Kc hKc=>?_
     refine nv ?_;go_simp
     refine(q_Of (P:=Gp (fun _=>True) w1.heap.size 1) 1 (by decide) (by decide) (gap_fresh (fun _ _=>trivial) blq arq)).mono ?_;rintro e w3 ⟨u1,rfl,hu1,hb3⟩;have HU1:=Lib.hid hu1;clear hu1;have HF3:=fgo w3 HF2;have hz3:=HF3.out.1;have hx3_0:w1.heap.size<w3.heap.size:=(by omega);obtain⟨q3_0,q3_1,q3_2,-⟩:=HF3.out.alls 0 3;go_wp2_with fail
     refine hKc.out _ _ ?_ (fun hHeld=>?_);focus ((try dsimp only);exact(HF3.out.go blq).all 0 3)
     clear hKc Kc;refine nw ?_;refine OrdL.st 2 fun Kc hKc=>?_
     refine nv ?_;go_simp
     refine(q_Over (P:=Gp (fun _=>True) w1.heap.size 1) (K:=75) ((HU1.out.wide (by decide)).below blq) (HR1G.out.below blq) (by decide) (gap_fresh (fun _ _=>trivial) blq arq) HQ0.out).mono ?_;rintro e w4 ⟨y,rfl,hy,hb4⟩;have HY:=Lib.hid hy;clear hy;have HF4:=fgo w4 HF3;have hz4:=HF4.out.1;have hx4_0:w1.heap.size<w4.heap.size:=(by omega);obtain⟨q4_0,q4_1,q4_2,-⟩:=HF4.out.alls 0 3;obtain⟨_,_,_,-⟩:=HF4.out.falls 0 3;go_wp2_with fail
     refine hKc.out _ _ ?_ (fun hHeld=>?_);focus ((try dsimp only);exact(HF4.out.go blq).all 0 3)
     clear hKc Kc;refine nw ?_;refine OrdL.last (i:=3) rfl (by decide) (by decide) (by kernel_rfl) (fun Kc hKc=>?_);refine nv ?_;go_simp
     refine hKc.out _ _ ?_;clear hKc Kc;refine nw ?_;refine OrdL.done (by kernel_rfl) ?_ _;go_wp2_with fail
     go_meet
     refine⟨y,by go_num,?_,?_,blq⟩
     · rw [HP1.2];exact(((((show IsQ (Gp (fun _=>True) w1.heap.size 1) 150 _ y (1/q)from HY.out).put _ arq arq).put _ arq arq).put _ arq arq)).ungap
     · exact((((HF4.out).sets w1.heap.size 0 (.bool y.b)).sets w1.heap.size 1 (.slice y.nA y.nn y.nc)).sets w1.heap.size 2 (.slice y.dA y.dn y.dc)).eq (by simp)
   · obtain⟨hn1,HP1⟩:=HPP.out (by omega);go_wp2_with fail
     go_meet
     refine⟨r1,by first|rfl|rw [hn1],by rw [HP1];exact(HR1.out.wide (by decide)).below blq,HF2.out,blq⟩
  case rest =>
   obtain⟨⟨yb,yA,yn,yc,zA,zn,zc⟩,rfl,hy,hfy,hby⟩:=hcut;obtain⟨w3,rfl⟩:∃W:World,W=wc:=⟨_,rfl⟩;have HY:=Lib.hid hy;have HF3:=Lib.hid (show Fr [(w1.heap.size,0,(.bool yb)),(w1.heap.size,1,(.slice yA yn yc)),(w1.heap.size,2,(.slice zA zn zc))] (w1.heap.size+1) w3 from hfy);have HB3:=Lib.hid hby;have hz3:=HF3.out.1;obtain⟨q3_0,q3_1,q3_2,-⟩:=HF3.out.alls 0 3;clear hy hfy hby HR1 HR1G HA HFb1 HF0 HF1 HF2 HPN HPP HZ HN0 hb1 hb2 q2_0 q2_1 q2_2;go_upto_region 11 with fail
   go_cut [8] (fun v W=>∃(g:Nat) (o:QV),v=.pointer (some ⟨g,0,none⟩)∧w1.heap.size<g∧PowRel N g w1.heap.size w (QV.mk yb yA yn yc zA zn zc) p B (.int .i64 (0:Nat)) W)
   case first =>
    have HYB:=Lib.hid HY.out.hb;have HYC:=HY;have hyb:yb=decide (p.num<0):=HYB.out;clear HYB HY;cases yb with
    | false =>
     have HBB:=Lib.hid (show false=B from by rw [←HBP.out,pow_sign,←hyb];rfl);clear hyb;go_wp2_with fail
     refine(d_natOf (P:=fun _=>True) 1 (by decide) (by decide) (fun _ _=>trivial)).mono ?_;rintro e w4 ⟨A4,n4,c4,rfl,h4,hb4⟩;have H4:=Lib.hid h4;clear h4;have HF4:=fgo w4 HF3;have hz4:=HF4.out.1;have hx4_0:w1.heap.size<w4.heap.size:=(by omega);obtain⟨q4_0,q4_1,q4_2,-⟩:=HF4.out.alls 0 3;go_wp2_with fail
     refine(d_natOf (P:=fun _=>True) 1 (by decide) (by decide) (fun _ _=>trivial)).mono ?_;rintro e w5 ⟨A5,n5,c5,rfl,h5,hb5⟩;have H5:=Lib.hid h5;clear h5;have HF5:=fgo w5 HF4;have hz5:=HF5.out.1;have hx5_0:w1.heap.size<w5.heap.size:=(by omega);obtain⟨q5_0,q5_1,q5_2,-⟩:=HF5.out.alls 0 3;go_wp2_with fail
     go_meet
     refine⟨w5.heap.size,⟨false,A4,n4,c4,A5,n5,c5⟩,rfl,by omega,0,⟨false,A4,n4,c4,A5,n5,c5⟩,rfl,Nat.zero_le _,?_,?_,HBB.out,?_,?_,by have hb9:=HB3.out;exact blq⟩
     · rw [Int.pow_zero];exact((H4.out.below hb5).gap 1).below blq
     · rw [Int.pow_zero];exact(H5.out.gap 1).below blq
     · exact((HYC.out.below (bl_call hb4 hb5)).gap 1).below blq
     · exact HF5.out.new3 _ _ _ _
    | true =>
     by_cases hpar:N%2=1
     · have htm:=tm_nat N 1 hpar;have HBB:=Lib.hid (show true=B from by rw [←HBP.out,pow_sign,←hyb,decide_eq_true hpar];rfl);clear hyb hpar;go_wp2_with fail
       refine(d_natOf (P:=fun _=>True) 1 (by decide) (by decide) (fun _ _=>trivial)).mono ?_;rintro e w4 ⟨A4,n4,c4,rfl,h4,hb4⟩;have H4:=Lib.hid h4;clear h4;have HF4:=fgo w4 HF3;have hz4:=HF4.out.1;have hx4_0:w1.heap.size<w4.heap.size:=(by omega);obtain⟨q4_0,q4_1,q4_2,-⟩:=HF4.out.alls 0 3;go_wp2_with fail
       refine(d_natOf (P:=fun _=>True) 1 (by decide) (by decide) (fun _ _=>trivial)).mono ?_;rintro e w5 ⟨A5,n5,c5,rfl,h5,hb5⟩;have H5:=Lib.hid h5;clear h5;have HF5:=fgo w5 HF4;have hz5:=HF5.out.1;have hx5_0:w1.heap.size<w5.heap.size:=(by omega);obtain⟨q5_0,q5_1,q5_2,-⟩:=HF5.out.alls 0 3;go_wp2_with fail
       go_meet
       refine⟨w5.heap.size,⟨true,A4,n4,c4,A5,n5,c5⟩,rfl,by omega,0,⟨true,A4,n4,c4,A5,n5,c5⟩,rfl,Nat.zero_le _,?_,?_,HBB.out,?_,?_,by have hb9:=HB3.out;exact blq⟩
       · rw [Int.pow_zero];exact((H4.out.below hb5).gap 1).below blq
       · rw [Int.pow_zero];exact(H5.out.gap 1).below blq
       · exact((HYC.out.below (bl_call hb4 hb5)).gap 1).below blq
       · exact HF5.out.new3 _ _ _ _
     · have htm:=tm_nat N 0 (by omega);have HBB:=Lib.hid (show false=B from by rw [←HBP.out,pow_sign,←hyb,decide_eq_false hpar];rfl);clear hyb hpar;go_wp2_with fail
       refine(d_natOf (P:=fun _=>True) 1 (by decide) (by decide) (fun _ _=>trivial)).mono ?_;rintro e w4 ⟨A4,n4,c4,rfl,h4,hb4⟩;have H4:=Lib.hid h4;clear h4;have HF4:=fgo w4 HF3;have hz4:=HF4.out.1;have hx4_0:w1.heap.size<w4.heap.size:=(by omega);obtain⟨q4_0,q4_1,q4_2,-⟩:=HF4.out.alls 0 3;go_wp2_with fail
       refine(d_natOf (P:=fun _=>True) 1 (by decide) (by decide) (fun _ _=>trivial)).mono ?_;rintro e w5 ⟨A5,n5,c5,rfl,h5,hb5⟩;have H5:=Lib.hid h5;clear h5;have HF5:=fgo w5 HF4;have hz5:=HF5.out.1;have hx5_0:w1.heap.size<w5.heap.size:=(by omega);obtain⟨q5_0,q5_1,q5_2,-⟩:=HF5.out.alls 0 3;go_wp2_with fail
       go_meet
       refine⟨w5.heap.size,⟨false,A4,n4,c4,A5,n5,c5⟩,rfl,by omega,0,⟨false,A4,n4,c4,A5,n5,c5⟩,rfl,Nat.zero_le _,?_,?_,HBB.out,?_,?_,by have hb9:=HB3.out;exact blq⟩
       · rw [Int.pow_zero];exact((H4.out.below hb5).gap 1).below blq
       · rw [Int.pow_zero];exact(H5.out.gap 1).below blq
       · exact((HYC.out.below (bl_call hb4 hb5)).gap 1).below blq
       · exact HF5.out.new3 _ _ _ _
   case rest =>
    obtain⟨g,o0,rfl,hxg,hrel⟩:=hcut;have HXG:=Lib.hid (show ¬w1.heap.size=g by omega);have HR0:=Lib.hid hrel;have hz4:g+1≤wc.heap.size:=by obtain⟨_,_,_,_,_,_,_,_,hf,_⟩:=hrel;exact hf.1
    clear hrel HF3 HB3 HY q3_0 q3_1 q3_2;go_wp2_with fail
    go_loopw [9] (fun v W=>PowRel N g w1.heap.size w (QV.mk yb yA yn yc zA zn zc) p B v W) (fun v _=>N-(intOf v).toNat)
    case atStart=>exact HR0.out
    case round =>
     obtain⟨k,o,rfl,hk,hn,hd,ho,hx,hf,hb⟩:=hrel;have hzr:g+1≤wr.heap.size:=hf.1;have HN:=Lib.hid hn;have HD:=Lib.hid hd;have HO:=Lib.hid ho;have HX:=Lib.hid hx;have HF:=Lib.hid (show Fr [(g,0,(.bool o.b)),(g,1,(.slice o.nA o.nn o.nc)),(g,2,(.slice o.dA o.dn o.dc)),(w1.heap.size,0,(.bool yb)),(w1.heap.size,1,(.slice yA yn yc)),(w1.heap.size,2,(.slice zA zn zc))] (g+1) wr from hf);have HB:=Lib.hid hb;clear hn hd ho hx hf hb;have q0_0:=HF.out.get 0 rfl;have z0_0:=HF.out.frz 0 rfl;have q0_1:=HF.out.get 1 rfl;have z0_1:=HF.out.frz 1 rfl;have q0_2:=HF.out.get 2 rfl;have z0_2:=HF.out.frz 2 rfl;have q0_3:=HF.out.get 3 rfl;have z0_3:=HF.out.frz 3 rfl;have q0_4:=HF.out.get 4 rfl;have z0_4:=HF.out.frz 4 rfl;have q0_5:=HF.out.get 5 rfl;have z0_5:=HF.out.frz 5 rfl;by_cases hlt:k<N
     · have hlt':(k:Int)<(N:Int):=by omega
       go_wp2_with fail
       refine(d_mulNat (P:=Gp (fun _=>True) g 1) (HN.out.below blq) (HX.out.hn.below blq) (by have:=Nat.mul_le_mul (show k≤100 by omega) (Nat.le_refl 150);omega) (by decide) (fun k' hk'=>⟨trivial,.inr (Nat.le_trans arq hk')⟩)).mono ?_;rintro e w5 ⟨A5,n5,c5,rfl,h5,hb5⟩;have H5:=Lib.hid h5;have HF5:=Lib.hid (show Fr [(g,0,(.bool o.b)),(g,1,(.slice o.nA o.nn o.nc)),(g,2,(.slice o.dA o.dn o.dc)),(w1.heap.size,0,(.bool yb)),(w1.heap.size,1,(.slice yA yn yc)),(w1.heap.size,2,(.slice zA zn zc))] (g+1) w5 from HF.out.go blq);have hz5:=HF5.out.1;clear h5;obtain⟨q5_0,q5_1,q5_2,_,_,_,-⟩:=HF5.out.alls 0 6;obtain⟨_,_,_,_,_,_,-⟩:=HF5.out.falls 0 6;go_wp2_with fail
       refine(d_mulNat (P:=Gp (fun _=>True) g 1) ((HD.out.below blq:IsD _ _ w5 _ _ _ _).put _ arq arq) ((HX.out.hd.below blq:IsD _ _ w5 _ _ _ _).put _ arq arq) (by have:=Nat.mul_le_mul (show k≤100 by omega) (Nat.le_refl 150);omega) (by decide) (fun k' hk'=>⟨trivial,.inr (Nat.le_trans arq hk')⟩)).mono ?_;rintro e w6 ⟨A6,n6,c6,rfl,h6,hb6⟩;have H6:=Lib.hid h6;have HF6:=Lib.hid (show Fr [(g,0,(.bool o.b)),(g,1,(.slice A5 n5 c5)),(g,2,(.slice o.dA o.dn o.dc)),(w1.heap.size,0,(.bool yb)),(w1.heap.size,1,(.slice yA yn yc)),(w1.heap.size,2,(.slice zA zn zc))] (g+1) w6 from((HF5.out.sets g 1 (.slice A5 n5 c5)).eq (by simp [show ¬w1.heap.size=g from HXG.out])).go blq);have hz6:=HF6.out.1;clear h6;obtain⟨_,_,_,_,_,_,-⟩:=HF6.out.alls 0 6;obtain⟨_,_,_,_,_,_,-⟩:=HF6.out.falls 0 6;go_wp2_with fail
       go_roundw
       case rel =>
        refine⟨k+1,⟨o.b,A5,n5,c5,A6,n6,c6⟩,by go_num,hlt,?_,?_,HO.out,?_,?_,by have hb9:=HB.out;exact blq⟩
        · rw [Int.pow_succ,show 5+(k+1)*150=5+k*150+150 by omega];exact(((H5.out.put _ arq arq).below hb6).put _ arq arq)
        · rw [Int.pow_succ,show 5+(k+1)*150=5+k*150+150 by omega];exact(H6.out.put _ arq arq)
        · exact((((HX.out.below blq:IsQ _ _ w5 _ _).put _ arq arq).below hb6).put _ arq arq)
        · exact(HF6.out.sets g 2 (.slice A6 n6 c6)).eq (by simp [show ¬w1.heap.size=g from HXG.out])
       case measure=>simp [intOf];omega
     · obtain rfl:k=N:=by omega
       have HQP:=Lib.hid (q_of_pow (x:=o) HN.out HD.out (HO.out.trans HBP.out.symm));go_wp2_with fail
       refine(q_Out (K:=5+k*150) (x:=o) (HQP.out.below blq) (by have:=Nat.mul_le_mul (show k≤100 by omega) (Nat.le_refl 150);omega)).mono ?_;rintro e w5 ⟨rfl,hb5⟩;go_wp2_with fail
       go_ret2
       exact⟨by rw [HE.out,HPK.out];rfl,by have hb9:=HB.out;exact blq⟩
theorem q_rPow(a:ByteArray)(n:Int)(ha:a.size≤140737488351232) :
 Calls Tryz.prog 42 #[.string a,.int .i64 n] w fun e w'=>e=.returned (.tuple #[.string (rPow a n).1,.int .i64 (rPow a n).2])∧Below w.heap.size w w':=by
 cases hq:numB a with
 | none=>exact q_rPow_n a n ha hq
 | some q =>
  by_cases h1:n< -100
  · exact q_rPow_l a n ha hq h1
  · by_cases h2:100<n
    · exact q_rPow_g a n ha hq h2
    · by_cases h3:n<0∧q=0
      · exact q_rPow_z a n ha hq (by omega) h3.1 h3.2
      · exact q_rPow_y a n ha hq (by omega) (by omega) h3
end
end Go.Proofs.YtpdghgfbfmaplaaGreatDoor.Rf
end
