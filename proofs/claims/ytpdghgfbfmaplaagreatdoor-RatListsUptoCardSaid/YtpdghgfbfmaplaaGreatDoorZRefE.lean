/- Lemmas for RatLists. -/
import Derived.Test.YtpdghgfbfmaplaaGreatDoorZRefD
import Derived.Test.YtpdghgfbfmaplaaGreatDoorQL
set_option maxRecDepth 100000
set_option maxHeartbeats 8000000
section
set_option linter.unusedVariables false
set_option linter.unusedSimpArgs false
namespace Go.Proofs.YtpdghgfbfmaplaaGreatDoor.Rf
open Go.RowKit Go.Proofs.YtpdghgfbfmaplaaGreatDoorW.PrintWords Go.Proofs.YtpdghgfbfmaplaaGreatDoor.Num Go.Proofs.YtpdghgfbfmaplaaGreatDoor.PRef Go.Proofs.YtpdghgfbfmaplaaGreatDoor.WhC Go.Proofs.YtpdghgfbfmaplaaGreatDoor.Dec Go.Proofs.YtpdghgfbfmaplaaGreatDoor.Wh
structure QV where
 b:Bool
 nA:Option Addr
 nn:Nat
 nc:Nat
 dA:Option Addr
 dn:Nat
 dc:Nat
def IsQ(P:Nat→Prop)(K:Nat)(w:World)(x:QV)(q:Rat):Prop:=IsD P K w x.nA x.nn x.nc (q.num.natAbs:Int)∧IsD P K w x.dA x.dn x.dc (q.den:Int)∧x.b=decide (q.num<0)
section
variable {P P':Nat→Prop} {K K' s n:Nat} {w W W1:World} {x:QV} {q:Rat}
theorem IsQ.hn(h:IsQ P K w x q):IsD P K w x.nA x.nn x.nc (q.num.natAbs:Int):=h.1
theorem IsQ.hd(h:IsQ P K w x q):IsD P K w x.dA x.dn x.dc (q.den:Int):=h.2.1
theorem IsQ.hb(h:IsQ P K w x q):x.b=decide (q.num<0):=h.2.2
theorem IsQ.below(h:IsQ P K w x q)(hb:Below w.heap.size w W1):IsQ P K W1 x q:=⟨h.1.below hb,h.2.1.below hb,h.2.2⟩
theorem IsQ.mono(h:IsQ P K w x q)(hP:∀k,P k→P' k):IsQ P' K w x q:=⟨h.1.mono hP,h.2.1.mono hP,h.2.2⟩
theorem IsQ.wide(h:IsQ P K w x q)(hK:K≤K'):IsQ P K' w x q:=⟨h.1.wide hK,h.2.1.wide hK,h.2.2⟩
theorem IsQ.tight(h:IsQ P K w x q)(h1:q.num.natAbs<10000^K')(h2:q.den<10000^K'):IsQ P K' w x q:=⟨h.1.tight (by simpa using h1),h.2.1.tight (by simpa using h2),h.2.2⟩
theorem IsQ.gap(h:IsQ P K w x q)(n:Nat):IsQ (Gp P w.heap.size n) K w x q:=⟨h.1.gap n,h.2.1.gap n,h.2.2⟩
theorem IsQ.ungap(h:IsQ (Gp P s n) K w x q):IsQ P K w x q:=⟨h.1.ungap,h.2.1.ungap,h.2.2⟩
theorem IsQ.put(h:IsQ (Gp P s n) K w x q){p:Addr}(u:Value)(h1:s≤p.block)(h2:p.block<s+n):IsQ (Gp P s n) K (w.setCell p u) x q:=⟨h.1.put u h1 h2,h.2.1.put u h1 h2,h.2.2⟩
theorem IsQ.alc(h:IsQ P K w x q){o:Obj}:IsQ P K (w.alloc o) x q:=⟨h.1.alc,h.2.1.alc,h.2.2⟩
theorem IsQ.drw(h:IsQ P K w x q):IsQ P K w.drew x q:=⟨h.1.drw,h.2.1.drw,h.2.2⟩
theorem IsQ.bdn(h:IsQ P K w x q):q.num.natAbs<10000^K:=by have:=h.1.bd;simpa using this
theorem IsQ.bdd(h:IsQ P K w x q):q.den<10000^K:=by have:=h.2.1.bd;simpa using this
theorem isd_zero:IsD P K w none 0 0 0:=⟨[],rfl,Kd.V_mono (Kd.R_V (base:=0) (Kd.R_nil _ _ _ 0 _)) (fun k hk=>hk),Rep.zero D,by simp;exact Nat.pow_pos (by decide)⟩
theorem isd_nil{A:Option Addr}{n c:Nat}{z:Int}(h:IsD P K w A n c z):n=0↔z=0:=by
 obtain⟨l,rfl,_,hr,_⟩:=h
 rw [←hr.nil_iff (by decide)];exact List.length_eq_zero_iff
theorem isq_zero{A:Option Addr}{n c:Nat}(h:IsD P K w A n c 1):IsQ P K w ⟨false,none,0,0,A,n,c⟩ 0:=⟨isd_zero,h,rfl⟩
end
def sgz(neg:Bool)(z:Int):Int:=if neg=true then -z else z
theorem low_parts{neg:Bool}{z u:Int}(hz:0<z)(hu:0<u):((Rat.divInt (sgz neg z) u).num.natAbs:Int)=z/(Int.gcd z u:Int)∧((Rat.divInt (sgz neg z) u).den:Int)=u/(Int.gcd z u:Int)∧neg=decide ((Rat.divInt (sgz neg z) u).num<0):=by
 have hg:(0:Int)<(Int.gcd z u:Int):=by have:=Int.gcd_pos_of_ne_zero_right z (show u≠0 by omega);omega
 obtain⟨h1,h2⟩:=divInt_pos (z:=sgz neg z) hu
 have hgg:Int.gcd (sgz neg z) u=Int.gcd z u:=by unfold sgz;split <;> simp
 have hdv:=Int.gcd_dvd_left z u
 rw [hgg]at h1 h2
 rw [h1,h2]
 generalize (Int.gcd z u:Int)=g at *
 obtain⟨k,rfl⟩:=hdv
 have hkp:0<k:=by
  rcases Int.lt_or_le 0 k with h|h
  · exact h
  · exfalso
    have:=Int.mul_le_mul_of_nonneg_left h (Int.le_of_lt hg);omega
 have hd:g*k/g=k:=Int.mul_ediv_cancel_left _ (by omega)
 rw [hd]
 cases neg with
 | false =>
  have:sgz false (g*k)=g*k:=rfl;rw [this,hd];exact⟨by omega,rfl,(decide_eq_false (by omega)).symm⟩
 | true =>
  have:sgz true (g*k)=g* -k:=by unfold sgz;rw [if_pos rfl,Int.mul_neg]
  have e:g* -k/g= -k:=Int.mul_ediv_cancel_left _ (by omega);rw [this,e];exact⟨by omega,rfl,(decide_eq_true (by omega)).symm⟩
theorem divInt_one'(z:Int):Rat.divInt z 1=(z:Rat):=by
 obtain⟨h1,h2⟩:=divInt_pos (z:=z) (u:=1) (by decide)
 refine Rat.ext (by rw [h1];simp) ?_
 have:((Rat.divInt z 1).den:Int)=1:=by rw [h2];simp
 have h3:((z:Rat)).den=1:=rfl
 omega
section
variable {P:Nat→Prop} {K K':Nat} {w:World} {A A':Option Addr} {n n' c c':Nat} {z u:Int}
theorem q_lowest_0(neg:Bool)(hx:IsD P K w A n c z)(hy:IsD P K w A' n' c' u)(hu:0<u)(hK:K≤1000000000)(hP:∀k,w.heap.size≤k→P k)(hz:z=0) :
 Calls Tryz.prog 83 #[.bool neg,.slice A n c,.slice A' n' c'] w fun e w'=>∃r:QV,e=.returned (.agg #[.bool r.b,.slice r.nA r.nn r.nc,.slice r.dA r.dn r.dc])∧IsQ P K w' r (Rat.divInt (sgz neg z) u)∧Below w.heap.size w w':=by
 have HE:=Lib.hid (show Rat.divInt (sgz neg z) u=0 by subst hz;unfold sgz;split <;> simp)
 have HB:=Lib.hid (show(1:Int).natAbs<10000^K by have:=hy.bd;omega)
 obtain rfl:=(isd_nil hx).2 hz
 have HP:=Lib.hid hP
 clear hx hy hP hz hu hK
 have HF0:=Lib.hid (show Fr [(w.heap.size,0,(.bool false)),(w.heap.size,1,(.slice none 0 0)),(w.heap.size,2,(.slice none 0 0))] (w.heap.size+1) (w.alloc (.cells #[.bool false,.slice none 0 0,.slice none 0 0] 60))from frq)
 go_enter Tryz.func83,Tryz.ntmps83
 go_wp2_with fail
 refine(d_natOf (P:=Gp P w.heap.size 1) 1 (by decide) (by decide) (gap_fresh HP.out blq arq)).mono ?_
 rintro e w1 ⟨A1,n1,c1,rfl,h1,hb1⟩
 have H1:=Lib.hid h1;clear h1
 have HF1:=fgo w1 HF0
 have hz1:=HF1.out.1
 have hl1_0:=lt1 hz1
 obtain⟨q1_0,q1_1,q1_2,-⟩:=HF1.out.alls 0 3
 obtain⟨_,_,_,-⟩:=HF1.out.falls 0 3
 go_wp2_with fail
 refine bodyPost_ret (v:=.agg #[.bool (QV.mk false none 0 0 A1 n1 c1).b,.slice (QV.mk false none 0 0 A1 n1 c1).nA (QV.mk false none 0 0 A1 n1 c1).nn (QV.mk false none 0 0 A1 n1 c1).nc,.slice (QV.mk false none 0 0 A1 n1 c1).dA (QV.mk false none 0 0 A1 n1 c1).dn (QV.mk false none 0 0 A1 n1 c1).dc]) (by simp [results,Tryz.results83,go_sem,q1_0,q1_1,q1_2]) rfl ⟨⟨false,none,0,0,A1,n1,c1⟩,rfl,IsQ.ungap (s:=w.heap.size) (n:=1) ?_,blq⟩
 rw [HE.out];exact((((isq_zero (H1.out.tight HB.out)).put _ arq arq).put _ arq arq).put _ arq arq)
theorem q_lowest_1(neg:Bool)(hx:IsD P K w A n c z)(hy:IsD P K w A' n' c' u)(hu:0<u)(hK:K≤1000000000)(hP:∀k,w.heap.size≤k→P k)(hz:0<z) :
 Calls Tryz.prog 83 #[.bool neg,.slice A n c,.slice A' n' c'] w fun e w'=>∃r:QV,e=.returned (.agg #[.bool r.b,.slice r.nA r.nn r.nc,.slice r.dA r.dn r.dc])∧IsQ P K w' r (Rat.divInt (sgz neg z) u)∧Below w.heap.size w w':=by
 have HL:=Lib.hid (low_parts (neg:=neg) hz hu)
 have HG:=Lib.hid (show(0:Int)<(Int.gcd z u:Int) by have:=Int.gcd_pos_of_ne_zero_right z (show u≠0 by omega);omega)
 have hn0:((n:Int)==0)=false:=by simp;exact fun h=>by have:=(isd_nil hx).1 h;omega
 have HX:=Lib.hid (hx.gap 1)
 have HY:=Lib.hid (hy.gap 1)
 have HP:=Lib.hid hP
 have HK:=Lib.hid hK
 clear hx hy hP hz hu hK
 have HF0:=Lib.hid (show Fr [(w.heap.size,0,(.bool false)),(w.heap.size,1,(.slice none 0 0)),(w.heap.size,2,(.slice none 0 0))] (w.heap.size+1) (w.alloc (.cells #[.bool false,.slice none 0 0,.slice none 0 0] 60))from frq)
 go_enter Tryz.func83,Tryz.ntmps83
 go_wp2_with fail
 refine(d_gcdNat (P:=Gp P w.heap.size 1) (HX.out.below blq) (HY.out.below blq) (by have:=HK.out;omega) (gap_fresh HP.out blq arq)).mono ?_
 rintro e w1 ⟨A1,n1,c1,rfl,h1,hb1⟩
 have H1:=Lib.hid h1;clear h1
 have HF1:=fgo w1 HF0
 have hz1:=HF1.out.1
 have hl1_0:=lt1 hz1
 obtain⟨_,_,_,-⟩:=HF1.out.alls 0 3
 obtain⟨_,_,_,-⟩:=HF1.out.falls 0 3
 go_wp2_with fail
 refine(d_divNat (P:=Gp P w.heap.size 1) (HX.out.below blq) (H1.out.below blq) HG.out (by have:=HK.out;omega) (by have:=HK.out;omega) (gap_fresh HP.out blq arq)).mono ?_
 rintro e w2 ⟨A2,A3,n2,n3,c2,c3,rfl,h2,h3,hb2⟩
 have H2:=Lib.hid h2;clear h2
 have H3:=Lib.hid h3;clear h3
 have HF2:=fgo w2 HF1
 have hz2:=HF2.out.1
 have hl2_0:=lt1 hz2
 obtain⟨_,_,_,-⟩:=HF2.out.alls 0 3
 obtain⟨_,_,_,-⟩:=HF2.out.falls 0 3
 go_wp2_with fail
 refine(d_divNat (P:=Gp P w.heap.size 1) (HY.out.below blq) (H1.out.below blq) HG.out (by have:=HK.out;omega) (by have:=HK.out;omega) (gap_fresh HP.out blq arq)).mono ?_
 rintro e w3 ⟨A4,A5,n4,n5,c4,c5,rfl,h4,h5,hb3⟩
 have H4:=Lib.hid h4;clear h4
 have H5:=Lib.hid h5;clear h5
 have HF3:=fgo w3 HF2
 have hz3:=HF3.out.1
 have hl3_0:=lt1 hz3
 obtain⟨q3_0,q3_1,q3_2,-⟩:=HF3.out.alls 0 3
 obtain⟨_,_,_,-⟩:=HF3.out.falls 0 3
 go_wp2_with fail
 refine bodyPost_ret (v:=.agg #[.bool (QV.mk neg A2 n2 c2 A4 n4 c4).b,.slice (QV.mk neg A2 n2 c2 A4 n4 c4).nA (QV.mk neg A2 n2 c2 A4 n4 c4).nn (QV.mk neg A2 n2 c2 A4 n4 c4).nc,.slice (QV.mk neg A2 n2 c2 A4 n4 c4).dA (QV.mk neg A2 n2 c2 A4 n4 c4).dn (QV.mk neg A2 n2 c2 A4 n4 c4).dc]) (by simp [results,Tryz.results83,go_sem,q3_0,q3_1,q3_2]) rfl ⟨⟨neg,A2,n2,c2,A4,n4,c4⟩,rfl,IsQ.ungap (s:=w.heap.size) (n:=1) ?_,blq⟩
 exact((((show IsQ (Gp P w.heap.size 1) K _ (QV.mk neg A2 n2 c2 A4 n4 c4) _ from⟨HL.out.1▸H2.out.below blq,HL.out.2.1▸H4.out,HL.out.2.2⟩).put _ arq arq).put _ arq arq).put _ arq arq)
theorem q_lowest(neg:Bool)(hx:IsD P K w A n c z)(hy:IsD P K w A' n' c' u)(hu:0<u)(hK:K≤1000000000)(hP:∀k,w.heap.size≤k→P k) :
 Calls Tryz.prog 83 #[.bool neg,.slice A n c,.slice A' n' c'] w fun e w'=>∃r:QV,e=.returned (.agg #[.bool r.b,.slice r.nA r.nn r.nc,.slice r.dA r.dn r.dc])∧IsQ P K w' r (Rat.divInt (sgz neg z) u)∧Below w.heap.size w w':=by
 rcases Int.lt_or_le 0 z with h|h
 · exact q_lowest_1 neg hx hy hu hK hP h
 · exact q_lowest_0 neg hx hy hu hK hP (by have:=hx.nonneg;omega)
theorem q_Of_1(a:Int)(h1: -9223372036854775808≤a)(h2:a≤9223372036854775807)(hP:∀k,w.heap.size≤k→P k)(hn:a<0) :
 Calls Tryz.prog 60 #[.int .i64 a] w fun e w'=>∃r:QV,e=.returned (.agg #[.bool r.b,.slice r.nA r.nn r.nc,.slice r.dA r.dn r.dc])∧IsQ P 5 w' r (a:Rat)∧Below w.heap.size w w':=by
 have HM:=Lib.hid (show 0≤ -(a+1)+1∧ -(a+1)+1≤18446744073709551615 by omega)
 have HE:=Lib.hid (show(Rat.divInt (sgz true (-(a+1)+1)) 1)=(a:Rat) by rw [show sgz true (-(a+1)+1)=a by unfold sgz;rw [if_pos rfl];omega];exact divInt_one' _)
 have HP:=Lib.hid hP
 clear hP
 have HF0:=Lib.hid (show Fr [(w.heap.size,0,(.bool false)),(w.heap.size,1,(.slice none 0 0)),(w.heap.size,2,(.slice none 0 0))] (w.heap.size+1) (w.alloc (.cells #[.bool false,.slice none 0 0,.slice none 0 0] 60))from frq)
 go_enter Tryz.func60,Tryz.ntmps60
 go_wp2_with fail
 refine(d_natOf (P:=Gp P w.heap.size 1) (-(a+1)+1) HM.out.1 HM.out.2 (gap_fresh HP.out blq arq)).mono ?_
 rintro e w1 ⟨A1,n1,c1,rfl,h3,hb1⟩
 have H3:=Lib.hid h3;clear h3
 have HF1:=fgo w1 HF0
 have hz1:=HF1.out.1
 have hl1_0:=lt1 hz1
 obtain⟨_,_,_,-⟩:=HF1.out.alls 0 3
 obtain⟨_,_,_,-⟩:=HF1.out.falls 0 3
 go_wp2_with fail
 refine(d_natOf (P:=Gp P w.heap.size 1) 1 (by decide) (by decide) (gap_fresh HP.out blq arq)).mono ?_
 rintro e w2 ⟨A2,n2,c2,rfl,h4,hb2⟩
 have H4:=Lib.hid h4;clear h4
 have HF2:=fgo w2 HF1
 have hz2:=HF2.out.1
 have hl2_0:=lt1 hz2
 obtain⟨_,_,_,-⟩:=HF2.out.alls 0 3
 obtain⟨_,_,_,-⟩:=HF2.out.falls 0 3
 go_wp2_with fail
 refine(q_lowest (P:=Gp P w.heap.size 1) (K:=5) true (H3.out.below blq) (H4.out.below blq) (by decide) (by decide) (gap_fresh HP.out blq arq)).mono ?_
 rintro e w3 ⟨r,rfl,hr,hb3⟩
 have HR:=Lib.hid hr;clear hr
 have HF3:=fgo w3 HF2
 have hz3:=HF3.out.1
 have hl3_0:=lt1 hz3
 obtain⟨q3_0,q3_1,q3_2,-⟩:=HF3.out.alls 0 3
 obtain⟨_,_,_,-⟩:=HF3.out.falls 0 3
 go_wp2_with fail
 refine bodyPost_ret (v:=.agg #[.bool r.b,.slice r.nA r.nn r.nc,.slice r.dA r.dn r.dc]) (by simp [results,Tryz.results60,go_sem,q3_0,q3_1,q3_2]) rfl ⟨r,rfl,IsQ.ungap (s:=w.heap.size) (n:=1) ?_,blq⟩
 rw [←HE.out];exact(((HR.out.put _ arq arq).put _ arq arq).put _ arq arq)
theorem q_Of_0(a:Int)(h1: -9223372036854775808≤a)(h2:a≤9223372036854775807)(hP:∀k,w.heap.size≤k→P k)(hn:0≤a) :
 Calls Tryz.prog 60 #[.int .i64 a] w fun e w'=>∃r:QV,e=.returned (.agg #[.bool r.b,.slice r.nA r.nn r.nc,.slice r.dA r.dn r.dc])∧IsQ P 5 w' r (a:Rat)∧Below w.heap.size w w':=by
 obtain⟨m,hm⟩:∃y,y=a:=⟨_,rfl⟩
 have F3:∀x,x=a→IntKind.u64.wrap x=m:=fun x e=>by rw [e,hm];exact wu64 (by omega) (by omega)
 have HM:=Lib.hid (show 0≤m∧m≤18446744073709551615 by omega)
 have HE:=Lib.hid (show(Rat.divInt (sgz false m) 1)=(a:Rat) by rw [show sgz false m=a by unfold sgz;simp;omega];exact divInt_one' _)
 have hna:decide (a<0)=false:=decide_eq_false (by omega)
 have HP:=Lib.hid hP
 clear hP hm
 have HF0:=Lib.hid (show Fr [(w.heap.size,0,(.bool false)),(w.heap.size,1,(.slice none 0 0)),(w.heap.size,2,(.slice none 0 0))] (w.heap.size+1) (w.alloc (.cells #[.bool false,.slice none 0 0,.slice none 0 0] 60))from frq)
 go_enter Tryz.func60,Tryz.ntmps60
 go_wp2_with fail
 refine(d_natOf (P:=Gp P w.heap.size 1) m HM.out.1 HM.out.2 (gap_fresh HP.out blq arq)).mono ?_
 rintro e w1 ⟨A1,n1,c1,rfl,h3,hb1⟩
 have H3:=Lib.hid h3;clear h3
 have HF1:=fgo w1 HF0
 have hz1:=HF1.out.1
 have hl1_0:=lt1 hz1
 obtain⟨_,_,_,-⟩:=HF1.out.alls 0 3
 obtain⟨_,_,_,-⟩:=HF1.out.falls 0 3
 go_wp2_with fail
 refine(d_natOf (P:=Gp P w.heap.size 1) 1 (by decide) (by decide) (gap_fresh HP.out blq arq)).mono ?_
 rintro e w2 ⟨A2,n2,c2,rfl,h4,hb2⟩
 have H4:=Lib.hid h4;clear h4
 have HF2:=fgo w2 HF1
 have hz2:=HF2.out.1
 have hl2_0:=lt1 hz2
 obtain⟨_,_,_,-⟩:=HF2.out.alls 0 3
 obtain⟨_,_,_,-⟩:=HF2.out.falls 0 3
 go_wp2_with fail
 refine(q_lowest (P:=Gp P w.heap.size 1) (K:=5) false (H3.out.below blq) (H4.out.below blq) (by decide) (by decide) (gap_fresh HP.out blq arq)).mono ?_
 rintro e w3 ⟨r,rfl,hr,hb3⟩
 have HR:=Lib.hid hr;clear hr
 have HF3:=fgo w3 HF2
 have hz3:=HF3.out.1
 have hl3_0:=lt1 hz3
 obtain⟨q3_0,q3_1,q3_2,-⟩:=HF3.out.alls 0 3
 obtain⟨_,_,_,-⟩:=HF3.out.falls 0 3
 go_wp2_with fail
 refine bodyPost_ret (v:=.agg #[.bool r.b,.slice r.nA r.nn r.nc,.slice r.dA r.dn r.dc]) (by simp [results,Tryz.results60,go_sem,q3_0,q3_1,q3_2]) rfl ⟨r,rfl,IsQ.ungap (s:=w.heap.size) (n:=1) ?_,blq⟩
 rw [←HE.out];exact(((HR.out.put _ arq arq).put _ arq arq).put _ arq arq)
theorem q_Of(a:Int)(h1: -9223372036854775808≤a)(h2:a≤9223372036854775807)(hP:∀k,w.heap.size≤k→P k) :
 Calls Tryz.prog 60 #[.int .i64 a] w fun e w'=>∃r:QV,e=.returned (.agg #[.bool r.b,.slice r.nA r.nn r.nc,.slice r.dA r.dn r.dc])∧IsQ P 5 w' r (a:Rat)∧Below w.heap.size w w':=by
 rcases Int.lt_or_le a 0 with h|h
 · exact q_Of_1 a h1 h2 hP h
 · exact q_Of_0 a h1 h2 hP h
end
end Go.Proofs.YtpdghgfbfmaplaaGreatDoor.Rf
end
