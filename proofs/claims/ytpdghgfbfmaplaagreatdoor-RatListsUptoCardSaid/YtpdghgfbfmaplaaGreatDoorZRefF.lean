/- Lemmas for RatLists. -/
import Derived.Test.YtpdghgfbfmaplaaGreatDoorZRefE
import Derived.Test.YtpdghgfbfmaplaaGreatDoorZOrdL
set_option maxRecDepth 100000
set_option maxHeartbeats 8000000
section
set_option linter.unusedVariables false
set_option linter.unusedSimpArgs false
namespace Go.Proofs.YtpdghgfbfmaplaaGreatDoor.Rf
open Go.RowKit Go.Proofs.YtpdghgfbfmaplaaGreatDoorW.PrintWords Go.Proofs.YtpdghgfbfmaplaaGreatDoor.Num Go.Proofs.YtpdghgfbfmaplaaGreatDoor.PRef Go.Proofs.YtpdghgfbfmaplaaGreatDoor.WhC Go.Proofs.YtpdghgfbfmaplaaGreatDoor.Dec Go.Proofs.YtpdghgfbfmaplaaGreatDoor.Wh
section
variable {P:Nat→Prop} {K K':Nat} {w:World} {A A':Option Addr} {n n' c c':Nat} {z u:Int}
theorem d_sizeNat'{r:Int}(hx:IsD P K w A n c z)(hK:K≤17000000000000)(hr:((dec z.toNat).length:Int)=r) :
 Calls Tryz.prog 108 #[.slice A n c] w fun e w'=>e=.returned (.int .i64 r)∧Below w.heap.size w w':=hr▸d_sizeNat hx hK
theorem dec_len4{m K:Nat}(h:m<10000^K):(dec m).length≤4*K+1:=by
 by_cases h0:m=0
 · subst h0;rw [dec_zero];simp
 · obtain⟨k,e1,e2,_⟩:=dec_len_ex m (by omega);have h4:(10000:Nat)^K=10^(4*K):=by rw [Nat.pow_mul]
   have h5:=(Nat.pow_lt_pow_iff_right (by decide:1<10)).1 (show 10^k<10^(4*K) by omega);omega
theorem d_textNat'{s:ByteArray}(hx:IsD P K w A n c z)(hK:K≤17000000000000)(hs:(⟨(dec z.toNat).toArray⟩:ByteArray)=s) :
 Calls Tryz.prog 68 #[.slice A n c] w fun e w'=>e=.returned (.string s)∧Below w.heap.size w w':=hs▸d_textNat hx hK
theorem text_size{m K:Nat}{s:ByteArray}(h:m<10000^K)(hs:(⟨(dec m).toArray⟩:ByteArray)=s):s.size≤4*K+1:=by
 rw [←hs]
 have:=dec_len4 h
 show(dec m).toArray.size≤_
 simpa using this
theorem gp_true{P:Nat→Prop}{s n k:Nat}(h:Gp P s n k):Gp (fun _=>True) s n k:=⟨trivial,h.2⟩
theorem sg_prod{q p:Int}{a b:Bool}(ha:a=decide (q<0))(hb:b=decide (p<0)):sgz (a !=b) ((q.natAbs:Int)*(p.natAbs:Int))=q*p:=by
 subst ha hb
 rcases Int.lt_or_le q 0 with h1|h1
 · rcases Int.lt_or_le p 0 with h2|h2
   · rw [decide_eq_true h1,decide_eq_true h2,show (q.natAbs:Int)= -q by omega,show (p.natAbs:Int)= -p by omega,Int.neg_mul_neg];rfl
   · rw [decide_eq_true h1,decide_eq_false (show ¬p<0 by omega),show (q.natAbs:Int)= -q by omega,show (p.natAbs:Int)=p by omega,Int.neg_mul];show- -(q*p)=q*p
     omega
 · rcases Int.lt_or_le p 0 with h2|h2
   · rw [decide_eq_false (show ¬q<0 by omega),decide_eq_true h2,show (q.natAbs:Int)=q by omega,show (p.natAbs:Int)= -p by omega,Int.mul_neg];show- -(q*p)=q*p
     omega
   · rw [decide_eq_false (show ¬q<0 by omega),decide_eq_false (show ¬p<0 by omega),show (q.natAbs:Int)=q by omega,show (p.natAbs:Int)=p by omega];rfl
end
section
variable {P:Nat→Prop} {K K':Nat} {w:World}
theorem q_Whole_1{x:QV}{q:Rat}(hx:IsQ P K w x q)(hK:K≤1000000000)(ha:q.den=1) :
 Calls Tryz.prog 88 #[.agg #[.bool x.b,.slice x.nA x.nn x.nc,.slice x.dA x.dn x.dc]] w fun e w'=>e=.returned (.bool true)∧Below w.heap.size w w':=by
 have HX:=Lib.hid (hx.gap 1)
 have HK:=Lib.hid hK
 clear hK
 have HS:=Lib.hid (show((q.den:Int)-1).sign=0 by rw [ha];rfl)
 clear hx ha
 have HF0:=Lib.hid (show Fr [(w.heap.size,0,(.bool x.b)),(w.heap.size,1,(.slice x.nA x.nn x.nc)),(w.heap.size,2,(.slice x.dA x.dn x.dc))] (w.heap.size+1) (w.alloc (.cells #[.bool x.b,.slice x.nA x.nn x.nc,.slice x.dA x.dn x.dc] 60))from frq)
 go_enter Tryz.func88,Tryz.ntmps88
 go_wp2_with fail
 go_region_held3 (fun W=>W.cell? ⟨w.heap.size,0,none⟩=some (.bool x.b)∧W.cell? ⟨w.heap.size,1,none⟩=some (.slice x.nA x.nn x.nc)∧W.cell? ⟨w.heap.size,2,none⟩=some (.slice x.dA x.dn x.dc))
  (exact⟨(by(repeat (with_reducible refine cell_far ?_ arq));exact(HF0.out.go blq).get 0 rfl),(by(repeat (with_reducible refine cell_far ?_ arq));exact(HF0.out.go blq).get 1 rfl),(by(repeat (with_reducible refine cell_far ?_ arq));exact(HF0.out.go blq).get 2 rfl)⟩)
  (first
   | (go_at_call 66;go_must (with_reducible refine(d_natOf (P:=Gp (fun _=>True) w.heap.size 1) 1 (by decide) (by decide) (gap_fresh (fun _ _=>trivial) blq arq)).mono ?_);rintro e w1 ⟨A1,n1,c1,rfl,h1,hb1⟩;have H1:=Lib.hid h1;clear h1;have HF1:=fgo w1 HF0;have hz1:=HF1.out.1;have hl1_0:=lt1 hz1)
   | (go_at_call 96;go_must (with_reducible refine(d_cmpNat' (r:=0) (P:=Gp (fun _=>True) w.heap.size 1) ((HX.out.hd.mono (fun k hk=>gp_true hk)).below blq) (H1.out.below blq) (by have:=HK.out;omega) (by decide) HS.out).mono ?_);rintro e w2 ⟨rfl,hb2⟩;have HF2:=fgo w2 HF0;have hz2:=HF2.out.1;have hl2_0:=lt1 hz2))
 go_wp2_with fail
 go_ret
 exact⟨rfl,blq⟩
theorem q_Whole_0{x:QV}{q:Rat}(hx:IsQ P K w x q)(hK:K≤1000000000)(ha:¬q.den=1) :
 Calls Tryz.prog 88 #[.agg #[.bool x.b,.slice x.nA x.nn x.nc,.slice x.dA x.dn x.dc]] w fun e w'=>e=.returned (.bool false)∧Below w.heap.size w w':=by
 have HX:=Lib.hid (hx.gap 1)
 have HK:=Lib.hid hK
 clear hK
 have HS:=Lib.hid (show((q.den:Int)-1).sign=1 by have:=den_pos q;exact Int.sign_eq_one_of_pos (by omega))
 clear hx ha
 have HF0:=Lib.hid (show Fr [(w.heap.size,0,(.bool x.b)),(w.heap.size,1,(.slice x.nA x.nn x.nc)),(w.heap.size,2,(.slice x.dA x.dn x.dc))] (w.heap.size+1) (w.alloc (.cells #[.bool x.b,.slice x.nA x.nn x.nc,.slice x.dA x.dn x.dc] 60))from frq)
 go_enter Tryz.func88,Tryz.ntmps88
 go_wp2_with fail
 go_region_held3 (fun W=>W.cell? ⟨w.heap.size,0,none⟩=some (.bool x.b)∧W.cell? ⟨w.heap.size,1,none⟩=some (.slice x.nA x.nn x.nc)∧W.cell? ⟨w.heap.size,2,none⟩=some (.slice x.dA x.dn x.dc))
  (exact⟨(by(repeat (with_reducible refine cell_far ?_ arq));exact(HF0.out.go blq).get 0 rfl),(by(repeat (with_reducible refine cell_far ?_ arq));exact(HF0.out.go blq).get 1 rfl),(by(repeat (with_reducible refine cell_far ?_ arq));exact(HF0.out.go blq).get 2 rfl)⟩)
  (first
   | (go_at_call 66;go_must (with_reducible refine(d_natOf (P:=Gp (fun _=>True) w.heap.size 1) 1 (by decide) (by decide) (gap_fresh (fun _ _=>trivial) blq arq)).mono ?_);rintro e w1 ⟨A1,n1,c1,rfl,h1,hb1⟩;have H1:=Lib.hid h1;clear h1;have HF1:=fgo w1 HF0;have hz1:=HF1.out.1;have hl1_0:=lt1 hz1)
   | (go_at_call 96;go_must (with_reducible refine(d_cmpNat' (r:=1) (P:=Gp (fun _=>True) w.heap.size 1) ((HX.out.hd.mono (fun k hk=>gp_true hk)).below blq) (H1.out.below blq) (by have:=HK.out;omega) (by decide) HS.out).mono ?_);rintro e w2 ⟨rfl,hb2⟩;have HF2:=fgo w2 HF0;have hz2:=HF2.out.1;have hl2_0:=lt1 hz2))
 go_wp2_with fail
 go_ret
 exact⟨rfl,blq⟩
theorem q_Zero{x:QV}{q:Rat}(hx:IsQ P K w x q)(hK:K≤1000000000){b:Bool}(hb:decide (q=0)=b) :
 Calls Tryz.prog 77 #[.agg #[.bool x.b,.slice x.nA x.nn x.nc,.slice x.dA x.dn x.dc]] w fun e w'=>e=.returned (.bool b)∧Below w.heap.size w w':=by
 have hn0:((x.nn:Int)==0)=b:=by
  rw [←hb,Bool.eq_iff_iff];simp only [beq_iff_eq,decide_eq_true_eq];rw [←Rat.num_eq_zero];have:=isd_nil hx.hn;omega
 clear hx hK hb
 have HF0:=Lib.hid (show Fr [(w.heap.size,0,(.bool x.b)),(w.heap.size,1,(.slice x.nA x.nn x.nc)),(w.heap.size,2,(.slice x.dA x.dn x.dc))] (w.heap.size+1) (w.alloc (.cells #[.bool x.b,.slice x.nA x.nn x.nc,.slice x.dA x.dn x.dc] 60))from frq)
 go_enter Tryz.func77,Tryz.ntmps77
 go_wp2_with fail
 go_ret
 exact⟨rfl,blq⟩
theorem q_Sign_z{x:QV}{q:Rat}(hx:IsQ P K w x q)(hK:K≤1000000000)(ha:q.num=0) :
 Calls Tryz.prog 56 #[.agg #[.bool x.b,.slice x.nA x.nn x.nc,.slice x.dA x.dn x.dc]] w fun e w'=>e=.returned (.int .i64 0)∧Below w.heap.size w w':=by
 have hn0:((x.nn:Int)==0)=true:=by simp only [beq_iff_eq];have:=isd_nil hx.hn;omega
 clear hx hK ha
 have HF0:=Lib.hid (show Fr [(w.heap.size,0,(.bool x.b)),(w.heap.size,1,(.slice x.nA x.nn x.nc)),(w.heap.size,2,(.slice x.dA x.dn x.dc))] (w.heap.size+1) (w.alloc (.cells #[.bool x.b,.slice x.nA x.nn x.nc,.slice x.dA x.dn x.dc] 60))from frq)
 go_enter Tryz.func56,Tryz.ntmps56
 go_wp2_with fail
 go_ret
 exact⟨rfl,blq⟩
theorem q_Sign_n{x:QV}{q:Rat}(hx:IsQ P K w x q)(hK:K≤1000000000)(ha:q.num<0) :
 Calls Tryz.prog 56 #[.agg #[.bool x.b,.slice x.nA x.nn x.nc,.slice x.dA x.dn x.dc]] w fun e w'=>e=.returned (.int .i64 (-1))∧Below w.heap.size w w':=by
 have hn0:((x.nn:Int)==0)=false:=by simp;exact fun h=>by have:=(isd_nil hx.hn).1 h;omega
 have hb0:x.b=true:=hx.hb.trans (decide_eq_true ha)
 clear hx hK ha
 have HF0:=Lib.hid (show Fr [(w.heap.size,0,(.bool x.b)),(w.heap.size,1,(.slice x.nA x.nn x.nc)),(w.heap.size,2,(.slice x.dA x.dn x.dc))] (w.heap.size+1) (w.alloc (.cells #[.bool x.b,.slice x.nA x.nn x.nc,.slice x.dA x.dn x.dc] 60))from frq)
 go_enter Tryz.func56,Tryz.ntmps56
 go_wp2_with fail
 go_ret
 exact⟨rfl,blq⟩
theorem q_Sign_p{x:QV}{q:Rat}(hx:IsQ P K w x q)(hK:K≤1000000000)(ha:0<q.num) :
 Calls Tryz.prog 56 #[.agg #[.bool x.b,.slice x.nA x.nn x.nc,.slice x.dA x.dn x.dc]] w fun e w'=>e=.returned (.int .i64 1)∧Below w.heap.size w w':=by
 have hn0:((x.nn:Int)==0)=false:=by simp;exact fun h=>by have:=(isd_nil hx.hn).1 h;omega
 have hb0:x.b=false:=hx.hb.trans (decide_eq_false (by omega))
 clear hx hK ha
 have HF0:=Lib.hid (show Fr [(w.heap.size,0,(.bool x.b)),(w.heap.size,1,(.slice x.nA x.nn x.nc)),(w.heap.size,2,(.slice x.dA x.dn x.dc))] (w.heap.size+1) (w.alloc (.cells #[.bool x.b,.slice x.nA x.nn x.nc,.slice x.dA x.dn x.dc] 60))from frq)
 go_enter Tryz.func56,Tryz.ntmps56
 go_wp2_with fail
 go_ret
 exact⟨rfl,blq⟩
theorem q_Sign{x:QV}{q:Rat}(hx:IsQ P K w x q)(hK:K≤1000000000) :
 Calls Tryz.prog 56 #[.agg #[.bool x.b,.slice x.nA x.nn x.nc,.slice x.dA x.dn x.dc]] w fun e w'=>e=.returned (.int .i64 q.num.sign)∧Below w.heap.size w w':=by
 rcases Int.lt_trichotomy q.num 0 with h|h|h
 · rw [Int.sign_eq_neg_one_of_neg h];exact q_Sign_n hx hK h
 · rw [h];exact q_Sign_z hx hK h
 · rw [Int.sign_eq_one_of_pos h];exact q_Sign_p hx hK h
theorem q_Fits_1{x:QV}{q:Rat}(hx:IsQ P K w x q)(hK:K≤1000000000)(ha:(dec q.num.natAbs).length≤300){b:Bool}(hb:decide ((dec q.den).length≤300)=b) :
 Calls Tryz.prog 98 #[.agg #[.bool x.b,.slice x.nA x.nn x.nc,.slice x.dA x.dn x.dc]] w fun e w'=>e=.returned (.bool b)∧Below w.heap.size w w':=by
 have HX:=Lib.hid (hx.gap 1)
 have HK:=Lib.hid hK
 clear hK
 obtain⟨r1,hr1⟩:∃r,((dec ((q.num.natAbs:Int)).toNat).length:Int)=r:=⟨_,rfl⟩
 obtain⟨r2,hr2⟩:∃r,((dec ((q.den:Int)).toNat).length:Int)=r:=⟨_,rfl⟩
 have hd1:decide (r1≤300)=true:=by rw [←hr1,Int.toNat_natCast];exact decide_eq_true (by omega)
 have hd2:decide (r2≤300)=b:=by rw [←hb,←hr2,Int.toNat_natCast];rw [decide_eq_decide];omega
 have HR1:=Lib.hid hr1
 have HR2:=Lib.hid hr2
 clear hx hr1 hr2 ha hb
 have HF0:=Lib.hid (show Fr [(w.heap.size,0,(.bool x.b)),(w.heap.size,1,(.slice x.nA x.nn x.nc)),(w.heap.size,2,(.slice x.dA x.dn x.dc))] (w.heap.size+1) (w.alloc (.cells #[.bool x.b,.slice x.nA x.nn x.nc,.slice x.dA x.dn x.dc] 60))from frq)
 go_enter Tryz.func98,Tryz.ntmps98
 go_wp2_with fail
 refine(d_sizeNat' (HX.out.hn.below blq) (by have:=HK.out;omega) HR1.out).mono ?_
 rintro e w1 ⟨rfl,hb1⟩
 have HF1:=fgo w1 HF0
 have hz1:=HF1.out.1
 have hl1_0:=lt1 hz1
 obtain⟨_,_,_,-⟩:=HF1.out.alls 0 3
 go_wp2_with fail
 refine(d_sizeNat' (HX.out.hd.below blq) (by have:=HK.out;omega) HR2.out).mono ?_
 rintro e w2 ⟨rfl,hb2⟩
 have HF2:=fgo w2 HF1
 have hz2:=HF2.out.1
 have hl2_0:=lt1 hz2
 obtain⟨_,_,_,-⟩:=HF2.out.alls 0 3
 go_wp2_with fail
 go_ret
 exact⟨rfl,blq⟩
theorem q_Fits_0{x:QV}{q:Rat}(hx:IsQ P K w x q)(hK:K≤1000000000)(ha:¬(dec q.num.natAbs).length≤300) :
 Calls Tryz.prog 98 #[.agg #[.bool x.b,.slice x.nA x.nn x.nc,.slice x.dA x.dn x.dc]] w fun e w'=>e=.returned (.bool false)∧Below w.heap.size w w':=by
 have HX:=Lib.hid (hx.gap 1)
 have HK:=Lib.hid hK
 clear hK
 obtain⟨r1,hr1⟩:∃r,((dec ((q.num.natAbs:Int)).toNat).length:Int)=r:=⟨_,rfl⟩
 obtain⟨r2,hr2⟩:∃r,((dec ((q.den:Int)).toNat).length:Int)=r:=⟨_,rfl⟩
 have hd1:decide (r1≤300)=false:=by rw [←hr1,Int.toNat_natCast];exact decide_eq_false (by omega)
 have HR1:=Lib.hid hr1
 have HR2:=Lib.hid hr2
 clear hx hr1 hr2 ha
 have HF0:=Lib.hid (show Fr [(w.heap.size,0,(.bool x.b)),(w.heap.size,1,(.slice x.nA x.nn x.nc)),(w.heap.size,2,(.slice x.dA x.dn x.dc))] (w.heap.size+1) (w.alloc (.cells #[.bool x.b,.slice x.nA x.nn x.nc,.slice x.dA x.dn x.dc] 60))from frq)
 go_enter Tryz.func98,Tryz.ntmps98
 go_wp2_with fail
 refine(d_sizeNat' (HX.out.hn.below blq) (by have:=HK.out;omega) HR1.out).mono ?_
 rintro e w1 ⟨rfl,hb1⟩
 have HF1:=fgo w1 HF0
 have hz1:=HF1.out.1
 have hl1_0:=lt1 hz1
 obtain⟨_,_,_,-⟩:=HF1.out.alls 0 3
 go_wp2_with fail
 go_ret
 exact⟨rfl,blq⟩
theorem q_Fits{x:QV}{q:Rat}(hx:IsQ P K w x q)(hK:K≤1000000000){b:Bool}(hb:decide (Short q)=b) :
 Calls Tryz.prog 98 #[.agg #[.bool x.b,.slice x.nA x.nn x.nc,.slice x.dA x.dn x.dc]] w fun e w'=>e=.returned (.bool b)∧Below w.heap.size w w':=by
 by_cases h:(dec q.num.natAbs).length≤300
 · exact q_Fits_1 hx hK h (by rw [←hb,decide_eq_decide];exact⟨fun h2=>⟨h,h2⟩,fun h2=>h2.2⟩)
 · rw [←hb,decide_eq_false (show ¬Short q from fun h2=>h h2.1)];exact q_Fits_0 hx hK h
theorem q_Write_11{x:QV}{q:Rat}(hx:IsQ P K w x q)(hK:K≤1000000000)(hn:q.num<0)(ha:q.den=1) :
 Calls Tryz.prog 67 #[.agg #[.bool x.b,.slice x.nA x.nn x.nc,.slice x.dA x.dn x.dc]] w fun e w'=>e=.returned (.string (bsOf (strF q)))∧Below w.heap.size w w':=by
 obtain⟨xb,nA,nn,nc,dA,dn,dc⟩:=x
 obtain rfl:xb=true:=hx.hb.trans (decide_eq_true hn)
 have HX:=Lib.hid (hx.gap 1)
 have HK:=Lib.hid hK
 clear hK
 have hK:=HK.out
 obtain⟨s1,hs1⟩:∃s:ByteArray,(⟨(dec ((q.num.natAbs:Int)).toNat).toArray⟩:ByteArray)=s:=⟨_,rfl⟩
 obtain⟨s2,hs2⟩:∃s:ByteArray,(⟨(dec ((q.den:Int)).toNat).toArray⟩:ByteArray)=s:=⟨_,rfl⟩
 have z1:=text_size (K:=K) (by have:=hx.bdn;simpa using this) hs1
 have z2:=text_size (K:=K) (by have:=hx.bdd;simpa using this) hs2
 have y1:1+s1.size<9223372036854775807:=by omega
 have y2:¬9223372036854775807<1+s1.size:=by omega
 have y3:¬9223372036854775807<1+s1.size+1:=by omega
 have y4:¬9223372036854775807<1+s1.size+1+s2.size:=by omega
 have y5:¬9223372036854775807<s1.size+1:=by omega
 have y6:¬9223372036854775807<s1.size+1+s2.size:=by omega
 have y7:¬9223372036854775807≤s1.size:=by omega
 have y8:¬9223372036854775807≤1+s1.size:=by omega
 have HE:=Lib.hid (show Value.string ((⟨#[45]⟩:ByteArray)++s1)=.string (bsOf (strF q)) by
  rw [←hs1,Int.toNat_natCast,strF,if_pos ha,strW,if_pos hn]
  first|rfl|(refine congrArg Value.string (ByteArray.ext ?_);simp [bsOf,ByteArray.data_append]))
 have HS1:=Lib.hid hs1
 have HS2:=Lib.hid hs2
 have HA:=Lib.hid ha
 clear hx hs1 hs2 ha hn z1 z2 hK
 have HF0:=Lib.hid (show Fr [(w.heap.size,0,(.bool true)),(w.heap.size,1,(.slice nA nn nc)),(w.heap.size,2,(.slice dA dn dc))] (w.heap.size+1) (w.alloc (.cells #[.bool true,.slice nA nn nc,.slice dA dn dc] 60))from frq)
 go_enter Tryz.func67,Tryz.ntmps67
 go_wp2_with fail
 refine(d_textNat' (HX.out.hn.below blq) (by have:=HK.out;omega) HS1.out).mono ?_
 rintro e w1 ⟨rfl,hb1⟩
 have HF1:=fgo w1 HF0
 have hz1:=HF1.out.1
 have hl1_0:=lt1 hz1
 obtain⟨_,_,_,-⟩:=HF1.out.alls 0 3
 go_wp2_with fail
 refine(q_Whole_1 (HX.out.below blq) HK.out HA.out).mono ?_
 rintro e w2 ⟨rfl,hb2⟩
 have HF2:=fgo w2 HF1
 have hz2:=HF2.out.1
 have hl2_0:=lt1 hz2
 obtain⟨_,_,_,-⟩:=HF2.out.alls 0 3
 go_wp2_with fail
 go_ret
 exact⟨congrArg Ending.returned HE.out,blq⟩
theorem q_Write_10{x:QV}{q:Rat}(hx:IsQ P K w x q)(hK:K≤1000000000)(hn:q.num<0)(ha:¬q.den=1) :
 Calls Tryz.prog 67 #[.agg #[.bool x.b,.slice x.nA x.nn x.nc,.slice x.dA x.dn x.dc]] w fun e w'=>e=.returned (.string (bsOf (strF q)))∧Below w.heap.size w w':=by
 obtain⟨xb,nA,nn,nc,dA,dn,dc⟩:=x
 obtain rfl:xb=true:=hx.hb.trans (decide_eq_true hn)
 have HX:=Lib.hid (hx.gap 1)
 have HK:=Lib.hid hK
 clear hK
 have hK:=HK.out
 obtain⟨s1,hs1⟩:∃s:ByteArray,(⟨(dec ((q.num.natAbs:Int)).toNat).toArray⟩:ByteArray)=s:=⟨_,rfl⟩
 obtain⟨s2,hs2⟩:∃s:ByteArray,(⟨(dec ((q.den:Int)).toNat).toArray⟩:ByteArray)=s:=⟨_,rfl⟩
 have z1:=text_size (K:=K) (by have:=hx.bdn;simpa using this) hs1
 have z2:=text_size (K:=K) (by have:=hx.bdd;simpa using this) hs2
 have y1:1+s1.size<9223372036854775807:=by omega
 have y2:¬9223372036854775807<1+s1.size:=by omega
 have y3:¬9223372036854775807<1+s1.size+1:=by omega
 have y4:¬9223372036854775807<1+s1.size+1+s2.size:=by omega
 have y5:¬9223372036854775807<s1.size+1:=by omega
 have y6:¬9223372036854775807<s1.size+1+s2.size:=by omega
 have y7:¬9223372036854775807≤s1.size:=by omega
 have y8:¬9223372036854775807≤1+s1.size:=by omega
 have HE:=Lib.hid (show Value.string (((⟨#[45]⟩:ByteArray)++s1)++⟨#[47]⟩++s2)=.string (bsOf (strF q)) by
  rw [←hs1,←hs2,Int.toNat_natCast,Int.toNat_natCast,strF,if_neg ha,strW,if_pos hn]
  first|rfl|(refine congrArg Value.string (ByteArray.ext ?_);simp [bsOf,ByteArray.data_append]))
 have HS1:=Lib.hid hs1
 have HS2:=Lib.hid hs2
 have HA:=Lib.hid ha
 clear hx hs1 hs2 ha hn z1 z2 hK
 have HF0:=Lib.hid (show Fr [(w.heap.size,0,(.bool true)),(w.heap.size,1,(.slice nA nn nc)),(w.heap.size,2,(.slice dA dn dc))] (w.heap.size+1) (w.alloc (.cells #[.bool true,.slice nA nn nc,.slice dA dn dc] 60))from frq)
 go_enter Tryz.func67,Tryz.ntmps67
 go_wp2_with fail
 refine(d_textNat' (HX.out.hn.below blq) (by have:=HK.out;omega) HS1.out).mono ?_
 rintro e w1 ⟨rfl,hb1⟩
 have HF1:=fgo w1 HF0
 have hz1:=HF1.out.1
 have hl1_0:=lt1 hz1
 obtain⟨_,_,_,-⟩:=HF1.out.alls 0 3
 go_wp2_with fail
 refine(q_Whole_0 (HX.out.below blq) HK.out HA.out).mono ?_
 rintro e w2 ⟨rfl,hb2⟩
 have HF2:=fgo w2 HF1
 have hz2:=HF2.out.1
 have hl2_0:=lt1 hz2
 obtain⟨_,_,_,-⟩:=HF2.out.alls 0 3
 go_wp2_with fail
 refine(d_textNat' (HX.out.hd.below blq) (by have:=HK.out;omega) HS2.out).mono ?_
 rintro e w3 ⟨rfl,hb3⟩
 have HF3:=fgo w3 HF2
 have hz3:=HF3.out.1
 have hl3_0:=lt1 hz3
 obtain⟨_,_,_,-⟩:=HF3.out.alls 0 3
 go_wp2_with fail
 go_ret
 exact⟨congrArg Ending.returned HE.out,blq⟩
theorem q_Write_01{x:QV}{q:Rat}(hx:IsQ P K w x q)(hK:K≤1000000000)(hn:¬q.num<0)(ha:q.den=1) :
 Calls Tryz.prog 67 #[.agg #[.bool x.b,.slice x.nA x.nn x.nc,.slice x.dA x.dn x.dc]] w fun e w'=>e=.returned (.string (bsOf (strF q)))∧Below w.heap.size w w':=by
 obtain⟨xb,nA,nn,nc,dA,dn,dc⟩:=x
 obtain rfl:xb=false:=hx.hb.trans (decide_eq_false hn)
 have HX:=Lib.hid (hx.gap 1)
 have HK:=Lib.hid hK
 clear hK
 have hK:=HK.out
 obtain⟨s1,hs1⟩:∃s:ByteArray,(⟨(dec ((q.num.natAbs:Int)).toNat).toArray⟩:ByteArray)=s:=⟨_,rfl⟩
 obtain⟨s2,hs2⟩:∃s:ByteArray,(⟨(dec ((q.den:Int)).toNat).toArray⟩:ByteArray)=s:=⟨_,rfl⟩
 have z1:=text_size (K:=K) (by have:=hx.bdn;simpa using this) hs1
 have z2:=text_size (K:=K) (by have:=hx.bdd;simpa using this) hs2
 have y1:1+s1.size<9223372036854775807:=by omega
 have y2:¬9223372036854775807<1+s1.size:=by omega
 have y3:¬9223372036854775807<1+s1.size+1:=by omega
 have y4:¬9223372036854775807<1+s1.size+1+s2.size:=by omega
 have y5:¬9223372036854775807<s1.size+1:=by omega
 have y6:¬9223372036854775807<s1.size+1+s2.size:=by omega
 have y7:¬9223372036854775807≤s1.size:=by omega
 have y8:¬9223372036854775807≤1+s1.size:=by omega
 have HE:=Lib.hid (show Value.string s1=.string (bsOf (strF q)) by
  rw [←hs1,Int.toNat_natCast,strF,if_pos ha,strW,if_neg hn]
  first|rfl|(refine congrArg Value.string (ByteArray.ext ?_);simp [bsOf,ByteArray.data_append]))
 have HS1:=Lib.hid hs1
 have HS2:=Lib.hid hs2
 have HA:=Lib.hid ha
 clear hx hs1 hs2 ha hn z1 z2 hK
 have HF0:=Lib.hid (show Fr [(w.heap.size,0,(.bool false)),(w.heap.size,1,(.slice nA nn nc)),(w.heap.size,2,(.slice dA dn dc))] (w.heap.size+1) (w.alloc (.cells #[.bool false,.slice nA nn nc,.slice dA dn dc] 60))from frq)
 go_enter Tryz.func67,Tryz.ntmps67
 go_wp2_with fail
 refine(d_textNat' (HX.out.hn.below blq) (by have:=HK.out;omega) HS1.out).mono ?_
 rintro e w1 ⟨rfl,hb1⟩
 have HF1:=fgo w1 HF0
 have hz1:=HF1.out.1
 have hl1_0:=lt1 hz1
 obtain⟨_,_,_,-⟩:=HF1.out.alls 0 3
 go_wp2_with fail
 refine(q_Whole_1 (HX.out.below blq) HK.out HA.out).mono ?_
 rintro e w2 ⟨rfl,hb2⟩
 have HF2:=fgo w2 HF1
 have hz2:=HF2.out.1
 have hl2_0:=lt1 hz2
 obtain⟨_,_,_,-⟩:=HF2.out.alls 0 3
 go_wp2_with fail
 go_ret
 exact⟨congrArg Ending.returned HE.out,blq⟩
theorem q_Write_00{x:QV}{q:Rat}(hx:IsQ P K w x q)(hK:K≤1000000000)(hn:¬q.num<0)(ha:¬q.den=1) :
 Calls Tryz.prog 67 #[.agg #[.bool x.b,.slice x.nA x.nn x.nc,.slice x.dA x.dn x.dc]] w fun e w'=>e=.returned (.string (bsOf (strF q)))∧Below w.heap.size w w':=by
 obtain⟨xb,nA,nn,nc,dA,dn,dc⟩:=x
 obtain rfl:xb=false:=hx.hb.trans (decide_eq_false hn)
 have HX:=Lib.hid (hx.gap 1)
 have HK:=Lib.hid hK
 clear hK
 have hK:=HK.out
 obtain⟨s1,hs1⟩:∃s:ByteArray,(⟨(dec ((q.num.natAbs:Int)).toNat).toArray⟩:ByteArray)=s:=⟨_,rfl⟩
 obtain⟨s2,hs2⟩:∃s:ByteArray,(⟨(dec ((q.den:Int)).toNat).toArray⟩:ByteArray)=s:=⟨_,rfl⟩
 have z1:=text_size (K:=K) (by have:=hx.bdn;simpa using this) hs1
 have z2:=text_size (K:=K) (by have:=hx.bdd;simpa using this) hs2
 have y1:1+s1.size<9223372036854775807:=by omega
 have y2:¬9223372036854775807<1+s1.size:=by omega
 have y3:¬9223372036854775807<1+s1.size+1:=by omega
 have y4:¬9223372036854775807<1+s1.size+1+s2.size:=by omega
 have y5:¬9223372036854775807<s1.size+1:=by omega
 have y6:¬9223372036854775807<s1.size+1+s2.size:=by omega
 have y7:¬9223372036854775807≤s1.size:=by omega
 have y8:¬9223372036854775807≤1+s1.size:=by omega
 have HE:=Lib.hid (show Value.string (s1++⟨#[47]⟩++s2)=.string (bsOf (strF q)) by
  rw [←hs1,←hs2,Int.toNat_natCast,Int.toNat_natCast,strF,if_neg ha,strW,if_neg hn]
  first|rfl|(refine congrArg Value.string (ByteArray.ext ?_);simp [bsOf,ByteArray.data_append]))
 have HS1:=Lib.hid hs1
 have HS2:=Lib.hid hs2
 have HA:=Lib.hid ha
 clear hx hs1 hs2 ha hn z1 z2 hK
 have HF0:=Lib.hid (show Fr [(w.heap.size,0,(.bool false)),(w.heap.size,1,(.slice nA nn nc)),(w.heap.size,2,(.slice dA dn dc))] (w.heap.size+1) (w.alloc (.cells #[.bool false,.slice nA nn nc,.slice dA dn dc] 60))from frq)
 go_enter Tryz.func67,Tryz.ntmps67
 go_wp2_with fail
 refine(d_textNat' (HX.out.hn.below blq) (by have:=HK.out;omega) HS1.out).mono ?_
 rintro e w1 ⟨rfl,hb1⟩
 have HF1:=fgo w1 HF0
 have hz1:=HF1.out.1
 have hl1_0:=lt1 hz1
 obtain⟨_,_,_,-⟩:=HF1.out.alls 0 3
 go_wp2_with fail
 refine(q_Whole_0 (HX.out.below blq) HK.out HA.out).mono ?_
 rintro e w2 ⟨rfl,hb2⟩
 have HF2:=fgo w2 HF1
 have hz2:=HF2.out.1
 have hl2_0:=lt1 hz2
 obtain⟨_,_,_,-⟩:=HF2.out.alls 0 3
 go_wp2_with fail
 refine(d_textNat' (HX.out.hd.below blq) (by have:=HK.out;omega) HS2.out).mono ?_
 rintro e w3 ⟨rfl,hb3⟩
 have HF3:=fgo w3 HF2
 have hz3:=HF3.out.1
 have hl3_0:=lt1 hz3
 obtain⟨_,_,_,-⟩:=HF3.out.alls 0 3
 go_wp2_with fail
 go_ret
 exact⟨congrArg Ending.returned HE.out,blq⟩
theorem q_Write{x:QV}{q:Rat}(hx:IsQ P K w x q)(hK:K≤1000000000) :
 Calls Tryz.prog 67 #[.agg #[.bool x.b,.slice x.nA x.nn x.nc,.slice x.dA x.dn x.dc]] w fun e w'=>e=.returned (.string (bsOf (strF q)))∧Below w.heap.size w w':=by
 by_cases h1:q.num<0
 · by_cases h2:q.den=1
   · exact q_Write_11 hx hK h1 h2
   · exact q_Write_10 hx hK h1 h2
 · by_cases h2:q.den=1
   · exact q_Write_01 hx hK h1 h2
   · exact q_Write_00 hx hK h1 h2
theorem q_Out_1{x:QV}{q:Rat}(hx:IsQ P K w x q)(hK:K≤1000000000)(ha:Short q) :
 Calls Tryz.prog 54 #[.agg #[.bool x.b,.slice x.nA x.nn x.nc,.slice x.dA x.dn x.dc]] w fun e w'=>e=.returned (.tuple #[.string (tellB q).1,.int .i64 (tellB q).2])∧Below w.heap.size w w':=by
 have HX:=Lib.hid (hx.gap 1)
 have HK:=Lib.hid hK
 clear hK
 have HB:=Lib.hid (show decide (Short q)=true from decide_eq_true ha)
 have HE:=Lib.hid (show tellB q=(bsOf (strF q),0)from if_pos ha)
 clear hx ha
 have HF0:=Lib.hid (show Fr [(w.heap.size,0,(.bool x.b)),(w.heap.size,1,(.slice x.nA x.nn x.nc)),(w.heap.size,2,(.slice x.dA x.dn x.dc))] (w.heap.size+1) (w.alloc (.cells #[.bool x.b,.slice x.nA x.nn x.nc,.slice x.dA x.dn x.dc] 60))from frq)
 go_enter Tryz.func54,Tryz.ntmps54
 go_wp2_with fail
 refine(q_Fits (b:=true) (HX.out.below blq) HK.out HB.out).mono ?_
 rintro e w1 ⟨rfl,hb1⟩
 have HF1:=fgo w1 HF0
 have hz1:=HF1.out.1
 have hl1_0:=lt1 hz1
 obtain⟨_,_,_,-⟩:=HF1.out.alls 0 3
 go_wp2_with fail
 refine(q_Write (HX.out.below blq) HK.out).mono ?_
 rintro e w2 ⟨rfl,hb2⟩
 have HF2:=fgo w2 HF1
 have hz2:=HF2.out.1
 have hl2_0:=lt1 hz2
 obtain⟨_,_,_,-⟩:=HF2.out.alls 0 3
 go_wp2_with fail
 go_ret2
 exact⟨by rw [HE.out];rfl,blq⟩
theorem q_Out_0{x:QV}{q:Rat}(hx:IsQ P K w x q)(hK:K≤1000000000)(ha:¬Short q) :
 Calls Tryz.prog 54 #[.agg #[.bool x.b,.slice x.nA x.nn x.nc,.slice x.dA x.dn x.dc]] w fun e w'=>e=.returned (.tuple #[.string (tellB q).1,.int .i64 (tellB q).2])∧Below w.heap.size w w':=by
 have HX:=Lib.hid (hx.gap 1)
 have HK:=Lib.hid hK
 clear hK
 have HB:=Lib.hid (show decide (Short q)=false from decide_eq_false ha)
 have HE:=Lib.hid (show tellB q=(nob,2)from if_neg ha)
 clear hx ha
 have HF0:=Lib.hid (show Fr [(w.heap.size,0,(.bool x.b)),(w.heap.size,1,(.slice x.nA x.nn x.nc)),(w.heap.size,2,(.slice x.dA x.dn x.dc))] (w.heap.size+1) (w.alloc (.cells #[.bool x.b,.slice x.nA x.nn x.nc,.slice x.dA x.dn x.dc] 60))from frq)
 go_enter Tryz.func54,Tryz.ntmps54
 go_wp2_with fail
 refine(q_Fits (b:=false) (HX.out.below blq) HK.out HB.out).mono ?_
 rintro e w1 ⟨rfl,hb1⟩
 have HF1:=fgo w1 HF0
 have hz1:=HF1.out.1
 have hl1_0:=lt1 hz1
 obtain⟨_,_,_,-⟩:=HF1.out.alls 0 3
 go_wp2_with fail
 go_ret2
 exact⟨by rw [HE.out];rfl,blq⟩
theorem q_Out{x:QV}{q:Rat}(hx:IsQ P K w x q)(hK:K≤1000000000) :
 Calls Tryz.prog 54 #[.agg #[.bool x.b,.slice x.nA x.nn x.nc,.slice x.dA x.dn x.dc]] w fun e w'=>e=.returned (.tuple #[.string (tellB q).1,.int .i64 (tellB q).2])∧Below w.heap.size w w':=by
 by_cases h:Short q
 · exact q_Out_1 hx hK h
 · exact q_Out_0 hx hK h
theorem q_Times{x y:QV}{q p:Rat}(hx:IsQ P K w x q)(hy:IsQ P K w y p)(hK:K≤100000000)(hP:∀k,w.heap.size≤k→P k) :
 Calls Tryz.prog 75 #[.agg #[.bool x.b,.slice x.nA x.nn x.nc,.slice x.dA x.dn x.dc],.agg #[.bool y.b,.slice y.nA y.nn y.nc,.slice y.dA y.dn y.dc]] w fun e w'=>∃r:QV,e=.returned (.agg #[.bool r.b,.slice r.nA r.nn r.nc,.slice r.dA r.dn r.dc])∧IsQ P (K+K) w' r (q*p)∧Below w.heap.size w w':=by
 have HU:=Lib.hid (show(0:Int)<(q.den:Int)*(p.den:Int)from Int.mul_pos (den_pos q) (den_pos p))
 have HE:=Lib.hid (show Rat.divInt (sgz (x.b !=y.b) ((q.num.natAbs:Int)*(p.num.natAbs:Int))) ((q.den:Int)*(p.den:Int))=q*p from by
  rw [sg_prod hx.hb hy.hb];exact mul_divInt q p)
 have HX:=Lib.hid (hx.gap 3)
 have HY:=Lib.hid (hy.gap 3)
 have HP:=Lib.hid hP
 have HK:=Lib.hid hK
 clear hx hy hP hK
 have HF0:=Lib.hid (show Fr [(w.heap.size,0,(.bool x.b)),(w.heap.size,1,(.slice x.nA x.nn x.nc)),(w.heap.size,2,(.slice x.dA x.dn x.dc)),(w.heap.size+1,0,(.bool y.b)),(w.heap.size+1,1,(.slice y.nA y.nn y.nc)),(w.heap.size+1,2,(.slice y.dA y.dn y.dc)),(w.heap.size+1+1,0,(.bool false)),(w.heap.size+1+1,1,(.slice none 0 0)),(w.heap.size+1+1,2,(.slice none 0 0))] (w.heap.size+1+1+1) (((w.alloc (.cells #[.bool x.b,.slice x.nA x.nn x.nc,.slice x.dA x.dn x.dc] 60)).alloc (.cells #[.bool y.b,.slice y.nA y.nn y.nc,.slice y.dA y.dn y.dc] 60)).alloc (.cells #[.bool false,.slice none 0 0,.slice none 0 0] 60))from frq)
 go_enter Tryz.func75,Tryz.ntmps75
 go_wp2_with fail
 refine OrdL.begin_ (S:=fun W=>W.cell? ⟨w.heap.size,0,none⟩=some (.bool x.b)∧W.cell? ⟨w.heap.size,1,none⟩=some (.slice x.nA x.nn x.nc)∧W.cell? ⟨w.heap.size,2,none⟩=some (.slice x.dA x.dn x.dc)∧W.cell? ⟨w.heap.size+1,0,none⟩=some (.bool y.b)∧W.cell? ⟨w.heap.size+1,1,none⟩=some (.slice y.nA y.nn y.nc)∧W.cell? ⟨w.heap.size+1,2,none⟩=some (.slice y.dA y.dn y.dc)∧W.cell? ⟨w.heap.size+1+1,0,none⟩=some (.bool false)∧W.cell? ⟨w.heap.size+1+1,1,none⟩=some (.slice none 0 0)∧W.cell? ⟨w.heap.size+1+1,2,none⟩=some (.slice none 0 0)) [] [16] (by kernel_rfl) ?_ (fun hHeld=>?_)
 focus ((try dsimp only);exact(HF0.out.go blq).all 0 9)
 refine OrdL.tk 0 (some 5) ?_
 refine nw ?_
 refine OrdL.tk 1 (some 6) ?_
 refine nw ?_
 refine OrdL.tk 2 (some 7) ?_
 refine nw ?_
 refine OrdL.tk 3 (some 8) ?_
 refine nw ?_
 refine OrdL.tk 4 (some 9) ?_
 refine nw ?_
 refine OrdL.tk 5 (some 10) ?_
 refine nw ?_
 refine OrdL.tk 6 (some 11) ?_
 refine nw ?_
 refine OrdL.tk 7 (some 12) ?_
 refine nw ?_
 refine OrdL.tk 8 (some 13) ?_
 refine nw ?_
 refine OrdL.tk 10 (some 15) ?_
 refine nw ?_
 refine OrdL.tk 11 (some 16) ?_
 refine nw ?_
 refine OrdL.tk 12 (some 17) ?_
 refine nw ?_
 refine OrdL.tk 13 (some 18) ?_
 refine nw ?_
 refine OrdL.st 9 fun Kc hKc=>?_
 refine nv ?_
 go_simp
 refine(d_mulNat (P:=Gp P w.heap.size 3) (HX.out.hn.below blq) (HY.out.hn.below blq) (by have:=HK.out;omega) (by have:=HK.out;omega) (gap_fresh HP.out blq arq)).mono ?_
 rintro e w1 ⟨A1,n1,c1,rfl,h1,hb1⟩
 have H1:=Lib.hid h1;clear h1
 have HF1:=fgo w1 HF0
 have hz1:=HF1.out.1
 obtain⟨hl1_0,hl1_1,hl1_2⟩:=lt3 hz1
 obtain⟨_,_,_,_,_,_,_,_,_,-⟩:=HF1.out.alls 0 9
 obtain⟨_,_,_,-⟩:=HF1.out.falls 6 3
 go_wp2_with fail
 refine hKc.out _ _ ?_ (fun hHeld=>?_)
 focus ((try dsimp only);exact(HF1.out.go blq).all 0 9)
 clear hKc Kc
 refine nw ?_
 refine OrdL.st 14 fun Kc hKc=>?_
 refine nv ?_
 go_simp
 refine(d_mulNat (P:=Gp P w.heap.size 3) (HX.out.hd.below blq) (HY.out.hd.below blq) (by have:=HK.out;omega) (by have:=HK.out;omega) (gap_fresh HP.out blq arq)).mono ?_
 rintro e w2 ⟨A2,n2,c2,rfl,h2,hb2⟩
 have H2:=Lib.hid h2;clear h2
 have HF2:=fgo w2 HF1
 have hz2:=HF2.out.1
 obtain⟨hl2_0,hl2_1,hl2_2⟩:=lt3 hz2
 obtain⟨_,_,_,_,_,_,_,_,_,-⟩:=HF2.out.alls 0 9
 obtain⟨_,_,_,-⟩:=HF2.out.falls 6 3
 go_wp2_with fail
 refine hKc.out _ _ ?_ (fun hHeld=>?_)
 focus ((try dsimp only);exact(HF2.out.go blq).all 0 9)
 clear hKc Kc
 refine nw ?_
 refine OrdL.st 15 fun Kc hKc=>?_
 refine nv ?_
 go_simp
 refine(q_lowest (P:=Gp P w.heap.size 3) (x.b !=y.b) (H1.out.below blq) (H2.out.below blq) HU.out (by have:=HK.out;omega) (gap_fresh HP.out blq arq)).mono ?_
 rintro e w3 ⟨r,rfl,hr,hb3⟩
 have HR:=Lib.hid hr;clear hr
 have HF3:=fgo w3 HF2
 have hz3:=HF3.out.1
 obtain⟨hl3_0,hl3_1,hl3_2⟩:=lt3 hz3
 obtain⟨_,_,_,_,_,_,q3_6,q3_7,q3_8,-⟩:=HF3.out.alls 0 9
 obtain⟨_,_,_,-⟩:=HF3.out.falls 6 3
 go_wp2_with fail
 refine hKc.out _ _ ?_ (fun hHeld=>?_)
 focus ((try dsimp only);exact(HF3.out.go blq).all 0 9)
 clear hKc Kc
 refine nw ?_
 refine OrdL.last (i:=16) rfl (by decide) (by decide) (by kernel_rfl) (fun Kc hKc=>?_)
 refine nv ?_
 go_simp
 refine hKc.out _ _ ?_
 clear hKc Kc
 refine nw ?_
 refine OrdL.done (by kernel_rfl) ?_ _
 go_wp2_with fail
 refine bodyPost_ret (v:=.agg #[.bool r.b,.slice r.nA r.nn r.nc,.slice r.dA r.dn r.dc]) (by simp [results,Tryz.results75,go_sem,q3_6,q3_7,q3_8]) rfl ⟨r,rfl,IsQ.ungap (s:=w.heap.size) (n:=3) ?_,blq⟩
 rw [←HE.out];exact(((HR.out.put _ arq arq).put _ arq arq).put _ arq arq)
end
end Go.Proofs.YtpdghgfbfmaplaaGreatDoor.Rf
end
