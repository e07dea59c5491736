/- Lemmas for RatLists. -/
import Derived.Test.YtpdghgfbfmaplaaGreatDoorQO
import Derived.Deep.DeepMust
set_option maxRecDepth 100000
set_option maxHeartbeats 8000000
section
set_option linter.unusedVariables false
namespace Go.Proofs.YtpdghgfbfmaplaaGreatDoor.Rf
open Go.RowKit Go.Proofs.YtpdghgfbfmaplaaGreatDoorW.PrintWords Go.Proofs.YtpdghgfbfmaplaaGreatDoor.Num Go.Proofs.YtpdghgfbfmaplaaGreatDoor.PRef Go.Proofs.YtpdghgfbfmaplaaGreatDoor.WhC Go.Proofs.YtpdghgfbfmaplaaGreatDoor.Dec Go.Proofs.YtpdghgfbfmaplaaGreatDoor.Wh
open Go.Proofs.YtpdghgfbfmaplaaGreatDoorW.PrintLast Go.Proofs.YtpdghgfbfmaplaaGreatDoorW.PrintMore
theorem blr{p:Prop}(h:p:=by repeat (first|with_reducible exact Below.refl _ _|with_reducible refine bl_set ?_ arq _|with_reducible refine bl_alloc ?_ _|with_reducible refine bl_drew ?_|with_reducible refine pw_below_drewN ?_ _|with_reducible refine bl_call ?_ (by assumption))):p:=h
theorem wrp{a b:Int}(h:wrap64 a=b):∀x:Int,x=a→wrap64 x=b:=fun _ e=>e▸h
def GoodD(u:Int)(f:Nat)(d:Int):Prop:=0<d∧d≤100000000∧∀X,0≤X→X/10000^f/d*u≤X
theorem div_guess{u d0:Int}{f:Nat}(hu:0<u)(h0:u/10000^f=d0)(hub:u<D^(f+2)):∃d,(f=0→d0=d)∧(0<f→wrap64 (d0+1)=d)∧GoodD u f d:=by
 have hp:(0:Int)<10000^f:=Int.pow_pos (by decide)
 have hd0:0≤d0:=h0▸Int.ediv_nonneg (by omega) (by omega)
 have hd1:d0<100000000:=by
  rw [←h0];refine Int.ediv_lt_of_lt_mul hp ?_;rw [Int.pow_add]at hub;have:D^f*D^2=100000000*10000^f:=by rw [Int.mul_comm];rfl
  omega
 have hq:∀X d:Int,0≤X→0<d→0≤X/10000^f/d∧X/10000^f/d*d≤X/10000^f∧X/10000^f*10000^f≤X:=fun X d hX hd =>
  ⟨Int.ediv_nonneg (Int.ediv_nonneg hX (by omega)) (by omega),Int.ediv_mul_le _ (by omega),Int.ediv_mul_le _ (by omega)⟩
 by_cases hf:f=0
 · subst hf;refine⟨d0,fun _=>rfl,fun h=>absurd h (by omega),?_⟩;have e:u=d0:=by rw [←h0];simp
   subst e;refine⟨hu,by omega,fun X hX=>?_⟩;obtain⟨_,h2,h3⟩:=hq X u hX hu;simp at h2 h3 ⊢;exact h2
 · refine⟨d0+1,fun h=>absurd h hf,fun _=>w64 (by omega) (by omega),by omega,by omega,fun X hX=>?_⟩;obtain⟨h1,h2,h3⟩:=hq X (d0+1) hX (by omega);have h4:u≤(d0+1)*10000^f:=by
    rw [←h0];have:=Int.lt_ediv_add_one_mul_self u hp;omega
   generalize X/10000^f/(d0+1)=q at *
   have h5:=Int.mul_le_mul_of_nonneg_left h4 h1;have h6:=Int.mul_le_mul_of_nonneg_right h2 (show(0:Int)≤10000^f by omega);rw [Int.mul_assoc]at h6;omega
def DivI(a:List Int)(u:Int)(i:Nat)(R:Int)(Q:List Int):Prop:=Q.length=a.length∧Dg D Q∧i≤a.length∧0≤R∧R<u∧val D (a.drop i)=val D (Q.drop i)*u+R
theorem DivI.start{a b t:List Int}{u:Int}(ha:Dg D a)(ht:a.drop (a.length-b.length+1)=t)(hl:b.length≤a.length∧0<b.length)(hlt:val D t<u):DivI a u (a.length-b.length+1) (val D t) (List.replicate a.length 0):=by
 refine⟨by simp,Dg.replicate (by decide) _,by omega,?_,hlt,?_⟩
 · rw [←ht];exact val_nonneg (by decide) (ha.drop _)
 · rw [ht,List.drop_replicate,val_replicate];simp
theorem DivI.step{a Q:List Int}{u R X q:Int}{j:Nat}(h:DivI a u (j+1) R Q)(hX:X=at0 a j+10000*R)(h0:0≤q)(h1:q*u≤X)(h2:X-q*u<u)(ha:Dg D a):q<10000∧DivI a u j (X-q*u) (Q.set j q):=by
 obtain⟨e1,e2,e3,e4,e5,e6⟩:=h
 have hb:=dg4 ha j
 have hq:q<10000:=by
  rcases Int.lt_or_le q 10000 with h|h
  · exact h
  · exfalso
    have:=Int.mul_le_mul_of_nonneg_right h (show 0≤u by omega);omega
 refine⟨hq,by simpa using e1,e2.set j ⟨h0,hq⟩,by omega,by omega,h2,?_⟩
 have h3:=drop_val a j
 have h4:=drop_val (Q.set j q) j
 have hj:j<Q.length:=by omega
 have h5:at0 (Q.set j q) j=q:=by rw [at0_lt (by simpa using hj)];simp
 have h6:(Q.set j q).drop (j+1)=Q.drop (j+1):=List.drop_set_of_lt (by omega)
 rw [h5,h6]at h4
 rw [h3,h4,e6,hX]
 show at0 a j+10000*(val D (Q.drop (j+1))*u+R)=(q+10000*val D (Q.drop (j+1)))*u+(at0 a j+10000*R-q*u)
 grind
theorem DivI.fin{a Q:List Int}{u R z:Int}(h:DivI a u 0 R Q)(hz:val D a=z):z/u=val D Q∧z%u=R:=by
 obtain⟨_,_,_,e4,e5,e6⟩:=h
 simp only [List.drop_zero]at e6
 rw [hz]at e6
 have e7:z=R+u*val D Q:=by rw [e6,Int.mul_comm u];omega
 rw [e7]
 exact⟨by rw [Int.add_mul_ediv_left _ _ (by omega),Int.ediv_eq_zero_of_lt e4 e5];omega,by rw [Int.add_mul_emod_self_left,Int.emod_eq_of_lt e4 e5]⟩
theorem gcd_step{x y:Int}(hx:0≤x)(hy:0≤y):Int.gcd y (x%y)=Int.gcd x y:=by
 obtain⟨a,rfl⟩:=Int.eq_ofNat_of_zero_le hx
 obtain⟨b,rfl⟩:=Int.eq_ofNat_of_zero_le hy
 rw [←Int.natCast_emod]
 show Nat.gcd b (a%b)=Nat.gcd a b
 rw [Nat.gcd_comm b,←Nat.gcd_rec,Nat.gcd_comm]
theorem mid_zero{u Y:Int}(hu:0<u)(h:0=(Y/u).toNat):Y<u:=by
 rcases Int.lt_or_le Y u with h1|h1
 · exact h1
 · have:=Int.le_ediv_of_mul_le hu (show 1*u≤Y by omega);omega
theorem mid_succ{u Y:Int}{m:Nat}(hu:0<u)(h:m+1=(Y/u).toNat):u≤Y:=by
 rcases Int.lt_or_le Y u with h1|h1
 · have:=Int.ediv_lt_of_lt_mul hu (show Y<1*u by omega);omega
 · exact h1
theorem mid_next{u X q:Int}{m:Nat}(hu:0<u)(h:m+1=((X-u*q)/u).toNat):m=((X-u*(q+1))/u).toNat:=by
 have e:X-u*(q+1)=X-u*q+u*(-1):=by rw [Int.mul_add];omega
 rw [e,Int.add_mul_ediv_left _ _ (by omega)]
 omega
section
variable {P:Nat→Prop} {K K':Nat} {w:World} {A A':Option Addr} {n n' c c':Nat} {z u:Int}
theorem sd_drop{l:List Int}(h:Sd P w (.slice A l.length c) l)(i:Nat)(hi:i≤l.length) :
 ∃(A1:Option Addr) (c1:Nat),Sd P w (.slice A1 (l.drop i).length c1) (l.drop i)∧∀W:World,(Instr.slice 58 (.slice A l.length c) (some (.int .i64 (i:Int))) none none).run Tryz.prog W=.ok (.slice A1 (l.drop i).length c1) W:=by
 obtain⟨i0,hi0,hz0,hz1,hz2⟩:=info_parts info3
 obtain⟨_,hc,hF⟩:=Kd.V_at h
 refine⟨if c=i then A else A.map (·.add (i*1)),c-i,Kd.V_mk (by simp;omega) (Kd.F_cut hF hi hc),fun W=>?_⟩
 have:=cut_from (P:=Tryz.prog) 58 3 .i64 Tryz.underlying58 hi0 1 hz1 A l.length c (i:Int) (by omega) (by omega) W
 rw [List.length_drop]
 simpa using this
theorem lit0(w:World):Kd.R (Kd.int .i64) 3 (w.alloc (.cells #[] 3)) w.heap.size (fun _=>True) (.slice (some ⟨w.heap.size,0,none⟩) 0 0) ([]:List Int) :=
 ⟨fun _ _=>trivial,OwnRow.lit (ps:=[]) (inner:=[]) w _ ⟨rfl,fun j p hj=>by simp at hj⟩ (Nat.le_refl _) (by decide)⟩
def PQ(P:Nat→Prop)(v:Value):Nat→Prop:=fun k=>P k∧some k≠v.ownBlock
theorem pq_fresh'{P:Nat→Prop}{w W:World}{base:Nat}{ok:Nat→Prop}{v:Value}{l:List Int}(hR:Kd.R (Kd.int .i64) 3 W base ok v l)(hP:∀k,w.heap.size≤k→P k)(hb:Below w.heap.size w W):∀k,W.heap.size≤k→PQ P v k :=
 fun k hk=>⟨hP k (Nat.le_trans hb.size hk),fun e=>by have:=Kd.R_lt hR k e.symm;omega⟩
theorem sd_get{l:List Int}(h:Sd P w (.slice A l.length c) l)(j:Nat)(hj:j<l.length):∃ad,A=some ad∧w.cell? (ad.add j)=some (.int .i64 (at0 l j)):=by
 obtain⟨_,_,_,_,hr⟩:=Kd.V_reads' h
 obtain⟨ad,e,hc⟩:=hr (by omega)
 refine⟨ad,e,?_⟩
 obtain⟨cs,h1,h2,h3⟩:=hc j (at0 l j) (by rw [at0_lt hj,List.getElem?_eq_getElem hj])
 have h2':cs= [Value.int .i64 (at0 l j)]:=h2
 subst h2'
 have:=h3 0 (.int .i64 (at0 l j)) rfl
 have e1:j*(Kd.int .i64).sz+0=j:=by show j*1+0=j;omega
 rwa [e1]at this
theorem sd_cell{ad:Addr}{l:List Int}(h:Sd P w (.slice (some ad) l.length c) l)(j:Nat)(hj:j<l.length):w.cell? (ad.add j)=some (.int .i64 (at0 l j)):=by
 obtain⟨ad',e,h⟩:=sd_get h j hj
 injection e with e
 rw [e];exact h
theorem own_form{W:World}{base:Nat}{ok:Nat→Prop}{v:Value}{xs:List Int}(h:Kd.R (Kd.int .i64) 3 W base ok v xs)(hp:0<xs.length):∃g cap,v=.slice (some ⟨g,0,none⟩) xs.length cap∧base≤g∧g<W.heap.size:=by
 obtain⟨g,cap,h1,h2,h3,_⟩:=Kd.R_form h hp
 exact⟨g,cap,h1,h2,h3⟩
theorem own_cell{W:World}{base g m cap:Nat}{ok:Nat→Prop}{xs:List Int}(h:Kd.R (Kd.int .i64) 3 W base ok (.slice (some ⟨g,0,none⟩) m cap) xs)(j:Nat)(hj:j<m):W.cell? ⟨g,j,none⟩=some (.int .i64 (at0 xs j))∧W.frozen? ⟨g,j,none⟩=false:=by
 have:=Kd.R_celln (0:Int) h (j:Int) (by omega) (by omega)
 rw [Int.toNat_natCast]at this
 refine⟨this.1.trans ?_,this.2⟩
 have e:rdOf 0 xs (j:Int)=at0 xs j:=by simp [rdOf,at0]
 rw [e]
theorem own_put{W:World}{base g m cap:Nat}{ok:Nat→Prop}{xs:List Int}(h:Kd.R (Kd.int .i64) 3 W base ok (.slice (some ⟨g,0,none⟩) m cap) xs)(j:Nat)(x:Int):Kd.R (Kd.int .i64) 3 (W.setCell ⟨g,j,none⟩ (.int .i64 x)) base ok (.slice (some ⟨g,0,none⟩) m cap) (xs.set j x):=by
 have:=(Kd.R_putg h (j:Int) x).1
 rwa [Int.toNat_natCast]at this
def DivR(P:Nat→Prop)(K:Nat)(w1:World)(vq:Value)(a:List Int)(u:Int)(i:Nat)(v7 v10:Value)(W:World):Prop :=
 ∃(A7:Option Addr) (n7 c7:Nat) (R:Int) (Q:List Int),v7=.slice A7 n7 c7∧v10=.int .i64 ((i:Int)-1)∧IsD (PQ P vq) K W A7 n7 c7 R∧Kd.R (Kd.int .i64) 3 W w1.heap.size (fun _=>True) vq Q∧Below w1.heap.size w1 W∧DivI a u i R Q
def CopR(wr:World)(vn:Value)(aj:Int)(l:List Int)(m:Nat)(v12:Value)(W:World):Prop :=
 m≤l.length∧v12=.int .i64 ((l.length-m:Nat):Int)∧Kd.R (Kd.int .i64) 3 W wr.heap.size (fun _=>True) vn (aj :: (l.take (l.length-m)++List.replicate m 0))∧Below wr.heap.size wr W
def MidR(P:Nat→Prop)(K:Nat)(wr:World)(X u:Int)(m:Nat)(v7 v13:Value)(W:World):Prop :=
 ∃(A n c:_) (q:Int),v7=.slice A n c∧v13=.int .i64 q∧IsD P K W A n c (X-u*q)∧0≤q∧u*q≤X∧m=((X-u*q)/u).toNat∧Below wr.heap.size wr W
theorem cop_set{l:List Int}{aj:Int}{k m:Nat}(h:l.length=k+(m+1)):(aj :: (l.take k++List.replicate (m+1) 0)).set (k+1) (at0 l k)=aj :: (l.take (k+1)++List.replicate m 0):=by
 have e:(l.take k).length=k:=by rw [List.length_take];omega
 rw [List.set_cons_succ,List.set_append_right _ _ (by omega),e,Nat.sub_self,List.replicate_succ,List.set_cons_zero,List.take_succ_eq_append_getElem (by omega),List.append_assoc,at0_lt (by omega)]
 rfl
theorem IsD.putq{g cap m:Nat}(h:IsD (PQ P (.slice (some ⟨g,0,none⟩) m cap)) K w A n c z)(j:Nat)(v:Value):IsD (PQ P (.slice (some ⟨g,0,none⟩) m cap)) K (w.setCell ⟨g,j,none⟩ v) A n c z :=
 h.step (fun k hk _=>Below.heap_setCell w _ v k (fun e=>hk.2 (by subst e;rfl)))
theorem DivI.x_lt{a Q:List Int}{u R:Int}{j:Nat}(h:DivI a u (j+1) R Q)(ha:Dg D a):0≤at0 a j+10000*R∧at0 a j+10000*R<10000*u:=by
 obtain⟨_,_,_,e4,e5,_⟩:=h
 have:=dg4 ha j
 omega
theorem x_bd{u X:Int}{K:Nat}(hu:u.natAbs<10000^K)(h0:0≤X)(h1:X<10000*u):X.natAbs<10000^(K+1):=by
 rw [Nat.pow_succ];omega
theorem IsD.kept{w1:World}{v:Value}(h:IsD (PQ P v) K w A n c z)(hk:Kept w w1 (fun k=>some k=v.ownBlock)):IsD (PQ P v) K w1 A n c z:=by
 obtain⟨l,h1,h2,h3,h4⟩:=h
 exact⟨l,h1,Kd.V_kept h2 hk (fun k hk e=>hk.2 e),h3,h4⟩
theorem d_top'{d:Int}(hx:IsD P K w A n c z)(hK:K≤17000000000000)(from_:Nat)(hf:from_≤17000000000000)(hl:n≤from_+4)(hd:z/10000^from_=d) :
 Calls Tryz.prog 131 #[.slice A n c,.int .i64 (from_:Int)] w fun e w'=>e=.returned (.int .i64 d)∧Below w.heap.size w w':=hd▸d_top hx hK from_ hf hl
theorem d_cmpNat'{r:Int}(hx:IsD P K w A n c z)(hy:IsD P K' w A' n' c' u)(hK:K≤17000000000000)(hK':K'≤17000000000000)(hr:(z-u).sign=r) :
 Calls Tryz.prog 96 #[.slice A n c,.slice A' n' c'] w fun e w'=>e=.returned (.int .i64 r)∧Below w.heap.size w w':=hr▸d_cmpNat hx hy hK hK'
theorem divNat_less(hx:IsD P K w A n c z)(hy:IsD P K' w A' n' c' u)(hu:0<u)(hzu:z<u)(hK:K≤10000000000)(hK':K'≤10000000000) :
 Calls Tryz.prog 115 #[.slice A n c,.slice A' n' c'] w fun e w'=>∃(A1 A2:Option Addr) (n1 n2 c1 c2:Nat),e=.returned (.tuple #[.slice A1 n1 c1,.slice A2 n2 c2])∧IsD P K w' A1 n1 c1 (z/u)∧IsD P K' w' A2 n2 c2 (z%u)∧Below w.heap.size w w':=by
 have hz0:=hx.nonneg
 have e1:z/u=0:=Int.ediv_eq_zero_of_lt hz0 hzu
 have e2:z%u=z:=Int.emod_eq_of_lt hz0 hzu
 have HX:=Lib.hid hx
 have HY:=Lib.hid hy
 have HR:=Lib.hid (show IsD P K' w A n c z from hx.tight (by have:=hy.bd;omega))
 have hs:(z-u).sign= -1:=Int.sign_eq_neg_one_of_neg (by omega)
 have HS:=Lib.hid hs
 clear hx hy hs
 rw [e1,e2]
 clear e1 e2 hzu hu hz0
 go_enter Tryz.func115,Tryz.ntmps115
 go_wp2_with fail
 refine(d_cmpNat' HX.out HY.out (by omega) (by omega) HS.out).mono ?_
 rintro e w1 ⟨rfl,hb1⟩
 go_wp2_with fail
 go_ret2
 exact⟨none,A,0,n,0,c,rfl,⟨[],rfl,Kd.V_mono (Kd.R_V (base:=0) (Kd.R_nil _ _ _ 0 _)) (fun k hk=>hk),Rep.zero D,by simp;exact Nat.pow_pos (by decide)⟩,HR.out.below blr,blr⟩
theorem divNat_more(hx:IsD P K w A n c z)(hy:IsD P K' w A' n' c' u)(hu:0<u)(hzu:u≤z)(hK:K≤10000000000)(hK':K'≤10000000000)(hP:∀k,w.heap.size≤k→P k) :
 Calls Tryz.prog 115 #[.slice A n c,.slice A' n' c'] w fun e w'=>∃(A1 A2:Option Addr) (n1 n2 c1 c2:Nat),e=.returned (.tuple #[.slice A1 n1 c1,.slice A2 n2 c2])∧IsD P K w' A1 n1 c1 (z/u)∧IsD P K' w' A2 n2 c2 (z%u)∧Below w.heap.size w w':=by
 obtain⟨r,hr⟩:∃r,(z-u).sign=r:=⟨_,rfl⟩
 have hr0:decide (r<0)=false:=decide_eq_false (by
  rcases Int.lt_or_eq_of_le (show 0≤z-u by omega)with h|h
  · rw [Int.sign_eq_one_of_pos h]at hr;omega
  · rw [←h]at hr;simp at hr;omega)
 have HX:=Lib.hid hx
 have HY:=Lib.hid hy
 have HS:=Lib.hid hr
 have HP:=Lib.hid hP
 obtain⟨a,hal,hxs,hxr,hxb⟩:=hx
 obtain⟨b,hbl,hys,hyr,hyb⟩:=hy
 subst hal hbl
 have hla:=repD_len hxr hxb
 have hlb:=repD_len hyr hyb
 have hle:b.length≤a.length:=by
  rcases Nat.lt_or_ge a.length b.length with h|h
  · have:=short_lt hxr.1 hyr.1 hyr.2.1 h;rw [hxr.2.2,hyr.2.2]at this;omega
  · exact h
 have hb0:b≠ []:=by intro e;subst e;have:=hyr.2.2;simp [val]at this;omega
 have hbp:=List.length_pos_iff.2 hb0
 have halp:0<a.length:=by omega
 have HXS:=Lib.hid hxs
 have HYS:=Lib.hid hys
 have HXR:=Lib.hid hxr
 have HYR:=Lib.hid hyr
 have HYB:=Lib.hid hyb
 have HXB:=Lib.hid hxb
 have HU:=Lib.hid hu
 clear hys hxr hyr hr hb0 hP hyb hxb hu hzu
 -- the highest digits
 obtain⟨A1,c1,hs1,hcut⟩:=sd_drop hxs (a.length-b.length+1) (by omega)
 obtain⟨t,ht⟩:∃t,a.drop (a.length-b.length+1)=t:=⟨_,rfl⟩
 have htl:t.length≤b.length:=by rw [←ht,List.length_drop];omega
 have HTL:=Lib.hid (show t.length=b.length-1 by rw [←ht,List.length_drop];omega)
 rw [ht]at hs1 hcut
 have HT:=Lib.hid hs1
 have HTD:=Lib.hid ht
 clear hs1 ht hxs
 have hcut':∀W:World,(Instr.slice 58 (.slice A a.length c) (some (.int .i64 ((a.length:Int)-b.length+1))) none none).run Tryz.prog W=.ok (.slice A1 t.length c1) W:=by
  intro W;have:=hcut W;rwa [show (((a.length-b.length+1:Nat):Int))=(a.length:Int)-b.length+1 by omega]at this
 clear hcut
 have e1:=wrp (show wrap64 ((a.length:Int)-b.length)=(a.length:Int)-b.length from w64 (by omega) (by omega))
 have e2:=wrp (show wrap64 ((a.length:Int)-b.length+1)=(a.length:Int)-b.length+1 from w64 (by omega) (by omega))
 have e3:=wrp (show wrap64 ((b.length:Int)-2)=(b.length:Int)-2 from w64 (by omega) (by omega))
 obtain⟨f,hf⟩:∃f:Nat,f=b.length-2:=⟨_,rfl⟩
 have hmx:(if 2<(b.length:Int)then (b.length:Int)-2 else 0)=(f:Int):=by split <;> omega
 have hmx2:(if 0<(b.length:Int)-2 then(b.length:Int)-2 else 0)=(f:Int):=by split <;> omega
 have hfb:b.length≤f+2∧f≤b.length:=by omega
 have HF:=Lib.hid hf
 clear hf
 go_enter Tryz.func115,Tryz.ntmps115
 go_wp2_with fail
 refine(d_cmpNat' HX.out HY.out (by omega) (by omega) HS.out).mono ?_
 rintro e w1 ⟨rfl,hb1⟩
 go_wp2_with (first
  | ((with_reducible refine gate_dst (N:=21) rfl ?_);refine Kd.R_make (Kd.int .i64) (w0:=w1) w1.heap.size 3 rfl (N:=21) rfl 58 _ _ rfl (a.length:Int) rfl rfl Tryz.underlying58 (.int .i64 0) 8 info3 rfl (by decide) (by decide) 0 (ok:=fun _=>True) (okp:=fun _=>True) rfl (fun _ hk=>hk) trivial (by omega) (by omega) blr (Nat.le_refl _) ?_;intro vq w2 hq hb2 hg2 hn2;clear hg2 hn2;have HQ:=Lib.hid (show Kd.R (Kd.int .i64) 3 w2 w1.heap.size (fun _=>True) vq (List.replicate a.length 0)from by simpa using hq);clear hq;obtain⟨gq,cq,eq_,gqb,gql⟩:=own_form HQ.out (by rw [List.length_replicate];exact halp);rw [List.length_replicate]at eq_;subst eq_;have HGQ:=Lib.hid gqb;have HYQ:=Lib.hid (show IsD (PQ P (.slice (some ⟨gq,0,none⟩) a.length cq)) K' w A' b.length c' u from HY.out.bound.mono (fun k hk=>⟨hk.1,fun e=>by have:=Option.some.inj e;have:=hb1.size;have:=HGQ.out;have:=hk.2;dsimp only at *;omega⟩));clear gqb gql)
  | ((with_reducible refine gate_dst (N:=31) rfl ?_);go_must (refine Kd.R_append_rows (Kd.int .i64) (w0:=w2) w2.heap.size rfl (.tmp 22) (.tmp 30) 58 3 (.int .i64 0) 8 rfl Tryz.underlying58 info3 rfl (by decide) (by decide) (.slice (some ⟨w2.heap.size,0,none⟩) 0 0) ([]:List Int) t A1 t.length c1 (fun _=>True) (fun _=>False) rfl rfl (lit0 w2) (Kd.V_reads' (HT.out.below blr)).2.2 (fun _ _ h=>h) (fun _ h=>h.elim) (fun _ _=>trivial) blr (Below.size blr) (by simp;omega) ?_);intro vr w3 hr3 hb3 hg3 hn3;clear hg3 hn3;have HR3:=Lib.hid hr3;clear hr3))
 have htv:=val_lt (by decide:(0:Int)<D) (HXR.out.1.drop (a.length-b.length+1))
 have htv0:=val_nonneg (by decide:(0:Int)<D) (HXR.out.1.drop (a.length-b.length+1))
 have hub:=val_ge_of_Nm (by decide:(0:Int)<D) HYR.out.1 HYR.out.2.1 (List.length_pos_iff.1 hbp)
 rw [HTD.out,HTL.out]at htv
 rw [HTD.out]at htv0
 rw [HYR.out.2.2]at hub
 have hlt:val D t<u:=by omega
 refine(d_trim (P:=PQ P (.slice (some ⟨gq,0,none⟩) a.length cq)) (K:=K') (z:=val D t) hb3 HR3.out (by rw [List.nil_append];omega) (by rw [List.nil_append,←HTD.out];exact HXR.out.1.drop _) (by rw [List.nil_append]) (by have:=HYB.out;omega) (pq_fresh' HQ.out HP.out blr)).mono ?_
 rintro e w4 ⟨A4,n4,c4,rfl,hr4,hb4,hk4⟩
 have HR4:=Lib.hid hr4
 clear hr4 htv htv0 hub
 go_wp2_with fail
 obtain⟨d0,hd0⟩:∃d0,u/10000^f=d0:=⟨_,rfl⟩
 have HE:=Lib.hid (show ∃d,(f=0→d0=d)∧(0<f→wrap64 (d0+1)=d)∧GoodD u f d from div_guess HU.out hd0 (by rw [←HYR.out.2.2];exact Int.lt_of_lt_of_le (val_lt (by decide) HYR.out.1) (pow_mono (by decide) hfb.1)))
 have HD0:=Lib.hid hd0
 clear hd0
 refine(d_top' (HY.out.below blr) (by omega) f (by omega) (by omega) HD0.out).mono ?_
 rintro e w5 ⟨rfl,hb5⟩
 obtain⟨d,hd1,hd2,hd3⟩:=HE.out
 have HG:=Lib.hid hd3
 have HR5:=Lib.hid (HR4.out.below hb5)
 have HQ5:=Lib.hid (show Kd.R (Kd.int .i64) 3 w5 w1.heap.size (fun _=>True) (.slice (some ⟨gq,0,none⟩) a.length cq) (List.replicate a.length 0)from Kd.R_below HQ.out (hb4.trans (hb5.mono hb4.size)))
 have HB5:=Lib.hid (show Below w1.heap.size w1 w5 from blr)
 have HS1:=Lib.hid hb1
 have HI:=Lib.hid (DivI.start (a:=a) (b:=b) (t:=t) HXR.out.1 HTD.out (by omega) hlt)
 clear hd3 hb1 hb2 hb3 hb4 hb5 hk4 HT HR3 hcut' hlt HE HD0 hr0 HS
 have HC:((0<f)=False∧d0=d)∨((0<f)=True∧IntKind.i64.wrap (d0+1)=d):=by
  rcases(by omega:f=0∨0<f)with h|h
  · exact .inl ⟨eq_false (by omega),hd1 h⟩
  · exact .inr ⟨eq_true h,(i64_w _).trans (hd2 h)⟩
 clear hd1 hd2 hmx hmx2
 rcases HC with ⟨hfd,hd⟩|⟨hfd,hd⟩
 all_goals (
  go_wp2_with fail
  clear hfd hd e1 e2 e3;go_loopg [7,10] (a.length-b.length+1) (fun i v7 v10 W=>DivR P K' w1 (.slice (some ⟨gq,0,none⟩) a.length cq) a u i v7 v10 W)
  case atStart =>
   exact⟨A4,n4,c4,val D t,List.replicate a.length 0,rfl,by simp;omega,HR5.out,HQ5.out,HB5.out,HI.out⟩
  case round =>
   rename World=>wo
   obtain⟨A7,n7,c7,R,Q,rfl,rfl,hr7,hq7,hb7,hi7⟩:=hrel;have HR7:=Lib.hid hr7;have HQ7:=Lib.hid hq7;have HB7:=Lib.hid hb7;have HI7:=Lib.hid hi7;clear HR5 HQ5 HB5 HI HR4 HQ hr7 hq7 hb7 hi7;cases gk with
   | zero =>
    obtain⟨f1,f2⟩:=HI7.out.fin HXR.out.2.2;have HF1:=Lib.hid f1;have HF2:=Lib.hid f2;clear f1 f2;go_wp2_with fail
    refine(d_trim (P:=P) (K:=K) (z:=val D Q) HB7.out HQ7.out (by have:=HI7.out.1;omega) HI7.out.2.1 rfl (by
     have h1:=HXB.out;have h2:=val_nonneg (by decide:(0:Int)<D) HI7.out.2.1;have h3:val D Q*1≤val D Q*u:=Int.mul_le_mul_of_nonneg_left (by have:=HU.out;omega) h2;have h4:=HI7.out.2.2.2.2.2;have h5:=HXR.out.2.2;simp only [List.drop_zero]at h4;have h6:=HI7.out.2.2.2.1
     omega) (fun k hk=>HP.out k (Nat.le_trans HS1.out.size hk))).mono ?_
    rintro e w6 ⟨A6,n6,c6,rfl,hr6,hb6,hk6⟩;have HR6:=Lib.hid hr6;have HK6:=Lib.hid hk6;have HB6:=Lib.hid hb6;clear hr6 hk6 hb6;go_wp2_with fail
    go_ret2
    exact⟨A6,A7,n6,n7,c6,c7,rfl,HF1.out▸HR6.out,HF2.out▸(HR7.out.kept HK6.out).mono (fun k hk=>hk.1),HS1.out.trans (HB6.out.mono HS1.out.size)⟩
   | succ j =>
    have ej:(((j+1:Nat):Int)-1)=(j:Int):=by omega
    rw [ej];clear ej;have hja:j<a.length:=by have:=HI7.out.2.2.1;omega
    have HXw:=Lib.hid (HXS.out.below (HS1.out.trans (HB7.out.mono HS1.out.size)));have hn7:n7≤b.length:=by
     obtain⟨l7,rfl,_,h7,_⟩:=HR7.out;refine repD_len h7 ?_;have h1:=HI7.out.2.2.2.1;have h2:=HI7.out.2.2.2.2.1;have h3:=val_lt (by decide:(0:Int)<D) HYR.out.1;rw [HYR.out.2.2]at h3;have h4:((10000^b.length:Nat):Int)=D^b.length:=by rw [Int.natCast_pow];rfl
     omega
    obtain⟨l7,rfl,hs7,hrep7,hbd7⟩:=HR7.out;clear hbd7;have HS7:=Lib.hid hs7;have HE7:=Lib.hid hrep7;clear hs7 hrep7;have HWw:=Lib.hid (show Below w.heap.size w wo from HS1.out.trans (HB7.out.mono HS1.out.size));obtain⟨ad,rfl,_⟩:=sd_get HXw.out j hja;have HGA:=Lib.hid (fun(W:World) (hb:Below w.heap.size w W)=>sd_cell (HXS.out.below hb) j hja);have HNN:=Lib.hid (show 0≤(l7.length:Int)+1∧((l7.length:Int)+1).toNat*8≤281474976710656 by omega);have e4:=wrp (show wrap64 ((l7.length:Int)+1)=(l7.length:Int)+1 from w64 (by omega) (by omega))
    go_wp2_with (first
     | ((with_reducible refine gate_dst (N:=56) rfl ?_);go_must (refine Kd.R_make (Kd.int .i64) (w0:=wo) wo.heap.size 3 rfl (N:=56) rfl 58 _ _ rfl ((l7.length:Int)+1) rfl rfl Tryz.underlying58 (.int .i64 0) 8 info3 rfl (by decide) (by decide) 0 (ok:=fun _=>True) (okp:=fun _=>True) rfl (fun _ hk=>hk) trivial HNN.out.1 HNN.out.2 blr (Nat.le_refl _) ?_);intro vn w6 hn hb6 hg2 hn2;clear hg2 hn2 e4;have HN:=Lib.hid (show Kd.R (Kd.int .i64) 3 w6 wo.heap.size (fun _=>True) vn (List.replicate (l7.length+1) 0)from by simpa using hn);clear hn;obtain⟨gn,cn,en,gb,gl⟩:=own_form HN.out (by simp);rw [List.length_replicate]at en;subst en;obtain⟨hc0,hz0⟩:=own_cell HN.out 0 (by simp);have hga:=HGA.out w6 (HWw.out.trans (hb6.mono HWw.out.size))))
    have HN6:=Lib.hid (show Kd.R (Kd.int .i64) 3 (w6.setCell ⟨gn,0,none⟩ (.int .i64 (at0 a j))) wo.heap.size (fun _=>True) (.slice (some ⟨gn,0,none⟩) (l7.length+1) cn) (at0 a j :: List.replicate l7.length 0)from own_put HN.out 0 _);have HB6:=Lib.hid (show Below wo.heap.size wo (w6.setCell ⟨gn,0,none⟩ (.int .i64 (at0 a j)))from bl_set hb6 gb _);have HGN:=Lib.hid gb;clear hc0 hz0 hga hb6 HN gb gl;obtain⟨aj,haj⟩:∃aj,at0 a j=aj:=⟨_,rfl⟩;have HAJ:=Lib.hid haj;rw [haj]at HN6 HB6 ⊢;clear haj;go_loopg [12] l7.length (fun m v12 W=>CopR wo (.slice (some ⟨gn,0,none⟩) (l7.length+1) cn) aj l7 m v12 W)
    case atStart =>
     refine⟨Nat.le_refl _,by rw [Nat.sub_self];rfl,?_,HB6.out⟩;rw [Nat.sub_self];exact HN6.out
    case round =>
     rename World=>wi
     obtain⟨hm12,rfl,hn12,hb12⟩:=hrel;have HN12:=Lib.hid hn12;have HB12:=Lib.hid hb12;clear HN6 HB6 hn12 hb12;cases gk with
     | zero =>
      obtain⟨X,hX⟩:∃X,at0 a j+10000*R=X:=⟨_,rfl⟩;obtain⟨hX0,hX1⟩:=HI7.out.x_lt HXR.out.1;rw [hX]at hX0 hX1;have HX0:=Lib.hid (And.intro hX0 hX1);have HXE:=Lib.hid hX.symm
      have HND:=Lib.hid (show Dg D (aj :: l7)∧val D (aj :: l7)=X from by
       rw [Dg_cons,←hX,HAJ.out];refine⟨⟨HAJ.out▸dg4 HXR.out.1 j,HE7.out.1⟩,?_⟩
       simp only [val,HE7.out.2.2])
      have HNV:=Lib.hid (show Kd.R (Kd.int .i64) 3 wi wo.heap.size (fun _=>True) (.slice (some ⟨gn,0,none⟩) (l7.length+1) cn) (aj :: l7)from by
       have:=HN12.out
       simpa using this)
      have HPQ:=Lib.hid (pq_fresh' HQ7.out HP.out HWw.out);clear HN12 hX hX0 hX1;go_wp2_with fail
      refine(d_trim (P:=PQ P (.slice (some ⟨gq,0,none⟩) a.length cq)) (K:=K'+1) (z:=X) HB12.out HNV.out (by simp only [List.length_cons];omega) HND.out.1 HND.out.2 (x_bd HYB.out HX0.out.1 HX0.out.2) HPQ.out).mono ?_;rintro e w8 ⟨A8,n8,c8,rfl,hr8,hb8,_⟩;have HR8:=Lib.hid hr8;have HB8:=Lib.hid hb8;clear hr8 hb8 HNV HB12 hm12;have hn8:n8≤b.length+1:=by
       obtain⟨l8,rfl,_,h8,_⟩:=HR8.out;refine repD_len h8 (x_bd ?_ HX0.out.1 HX0.out.2);have h3:=val_lt (by decide:(0:Int)<D) HYR.out.1;rw [HYR.out.2.2]at h3;have h4:((10000^b.length:Nat):Int)=D^b.length:=by rw [Int.natCast_pow];rfl
       have:=HU.out;omega
      obtain⟨g,hg⟩:∃g,X/10000^f=g:=⟨_,rfl⟩;have HGE:=Lib.hid hg;clear hg;go_wp2_with fail
      refine(d_top' HR8.out (by omega) f (by omega) (by omega) HGE.out).mono ?_;rintro e w9 ⟨rfl,hb9⟩;have HB9:=Lib.hid (show Below wo.heap.size wo w9 from HB8.out.trans (hb9.mono HB8.out.size));have HR9:=Lib.hid (HR8.out.below hb9);clear hb9 HB8 HR8;obtain⟨q0,hq0⟩:∃q0,g/d=q0:=⟨_,rfl⟩;have hg0:0≤g:=by rw [←HGE.out];exact Int.ediv_nonneg HX0.out.1 (Int.le_of_lt (Int.pow_pos (by decide)))
      have hqu:q0*u≤X:=by rw [←hq0,←HGE.out];exact HG.out.2.2 X HX0.out.1
      have hq00:0≤q0:=by rw [←hq0];exact Int.ediv_nonneg hg0 (by have:=HG.out.1;omega)
      have hq01:q0<10000:=by
       rcases Int.lt_or_le q0 10000 with h|h
       · exact h
       · exfalso
         have h1:=Int.mul_le_mul_of_nonneg_right h (show 0≤u by have:=HU.out;omega);have h2:=HX0.out.2;omega
      have HQU:=Lib.hid (And.intro hqu (And.intro hq00 hq01));have hdz:(d=0)=False:=eq_false (by have:=HG.out.1;omega);have e6:=wrp (show wrap64 (Int.tdiv g d)=q0 by rw [Int.tdiv_eq_ediv_of_nonneg hg0,hq0];exact w64 (by omega) (by omega));have HQW:=Lib.hid (show wrap64 (Int.tdiv g d)=q0 by rw [Int.tdiv_eq_ediv_of_nonneg hg0,hq0];exact w64 (by omega) (by omega));clear hq0 hqu hq00 hq01 hg0;have hP9:=Lib.hid (fun(W:World) (hb:Below wo.heap.size wo W) (k:Nat) (hk:W.heap.size≤k)=>HPQ.out k (Nat.le_trans hb.size hk));have HYW:=Lib.hid (fun(W:World) (hb:Below wo.heap.size wo W)=>HYQ.out.below (HWw.out.trans (hb.mono HWw.out.size)));go_wp2_with fail
      refine(d_mulDigit (P:=PQ P (.slice (some ⟨gq,0,none⟩) a.length cq)) (HYW.out _ HB9.out) q0 HQU.out.2.1 (by have:=HQU.out.2.2;omega) (by omega) (hP9.out _ HB9.out)).mono ?_;rintro e w10 ⟨A10,n10,c10,rfl,hr10,hb10⟩;have HR10:=Lib.hid hr10;have HB10:=Lib.hid (show Below wo.heap.size wo w10 from HB9.out.trans (hb10.mono HB9.out.size));have HR10':=Lib.hid (HR9.out.below hb10);clear hr10 hb10 HR9 HB9;go_wp2_with fail
      refine(d_subNat (P:=PQ P (.slice (some ⟨gq,0,none⟩) a.length cq)) HR10'.out HR10.out (by have:=HQU.out.1;rw [Int.mul_comm];exact this) (by omega) (hP9.out _ HB10.out)).mono ?_;rintro e w11 ⟨A11,n11,c11,rfl,hr11,hb11⟩;have HR11:=Lib.hid hr11;have HB11:=Lib.hid (show Below wo.heap.size wo w11 from HB10.out.trans (hb11.mono HB10.out.size));clear hr11 hb11 HR10 HR10' HB10 hdz e6;go_wp2_with fail
      go_loopg [7,13] ((X-u*q0)/u).toNat (fun m v7 v13 W=>MidR (PQ P (.slice (some ⟨gq,0,none⟩) a.length cq)) (K'+1) wo X u m v7 v13 W)
      case atStart=>exact ⟨A11,n11,c11,q0,rfl,by first|rfl|rw [HQW.out],HR11.out,HQU.out.2.1,by have:=HQU.out.1;rw [Int.mul_comm];exact this,rfl,HB11.out⟩
      case round =>
       rename World=>wm
       obtain⟨A13,n13,c13,q,rfl,rfl,hr13,hq0,hqX,hm13,hb13⟩:=hrel;have HR13:=Lib.hid hr13;have HB13:=Lib.hid hb13;have HQ0:=Lib.hid (And.intro hq0 hqX);clear HR11 HB11 hr13 hb13 hq0 hqX;cases gk with
       | zero =>
        have hlt:X-u*q<u:=mid_zero HU.out hm13;have HLT:=Lib.hid hlt;have HS13:=Lib.hid (show(X-u*q-u).sign= -1 from Int.sign_eq_neg_one_of_neg (by omega));clear hlt hm13;go_wp2_with fail
        refine(d_cmpNat' HR13.out (HYW.out _ HB13.out) (by omega) (by omega) HS13.out).mono ?_;rintro e w14 ⟨rfl,hb14⟩;have HB14:=Lib.hid (show Below wo.heap.size wo w14 from HB13.out.trans (hb14.mono HB13.out.size));have HR14:=Lib.hid (HR13.out.below hb14);have HQ14:=Lib.hid (show Kd.R (Kd.int .i64) 3 w14 w1.heap.size (fun _=>True) (.slice (some ⟨gq,0,none⟩) a.length cq) Q from Kd.R_below HQ7.out HB14.out);clear hb14 HR13 HB13;obtain⟨hc14,hz14⟩:=own_cell HQ14.out j hja;have e7:=wrp (show wrap64 ((j:Int)-1)=(j:Int)-1 from w64 (by omega) (by omega));go_wp2_with fail
        have HDS:=Lib.hid (HI7.out.step (X:=X) (q:=q) HXE.out HQ0.out.1 (by have:=HQ0.out.2;rw [Int.mul_comm];exact this) (by have:=HLT.out;rw [Int.mul_comm];exact this) HXR.out.1);go_roundg j
        case measure=>exact Nat.lt_succ_self _
        case rel=>exact ⟨A13,n13,c13,X-q*u,Q.set j q,rfl,rfl,by
         rw [Int.mul_comm]
         exact(HR14.out.tight (by
          have h1:=HLT.out;have h2:=HQ0.out.2;have h3:=HYB.out
          omega)).putq j _,own_put HQ14.out j q,bl_set (HB7.out.trans (HB14.out.mono HB7.out.size)) HGQ.out _,HDS.out.2⟩
       | succ m =>
        have hge:u≤X-u*q:=mid_succ HU.out hm13;have hnx:m=((X-u*(q+1))/u).toNat:=mid_next HU.out hm13;obtain⟨r2,hr2⟩:∃r2,(X-u*q-u).sign=r2:=⟨_,rfl⟩;have hr20:0≤r2:=by
         rcases Int.lt_or_eq_of_le (show 0≤X-u*q-u by omega)with h|h
         · rw [Int.sign_eq_one_of_pos h]at hr2;omega
         · rw [←h]at hr2;simp at hr2;omega
        have hr21:decide (0≤r2)=true:=decide_eq_true hr20;have HR2:=Lib.hid hr2;have HNX:=Lib.hid hnx;have HGE2:=Lib.hid hge;have hqb:q<10000:=by
         rcases Int.lt_or_le q 10000 with h|h
         · exact h
         · exfalso
           have h1:=Int.mul_le_mul_of_nonneg_left h (show 0≤u by have:=HU.out;omega);have h2:=HX0.out.2;have h3:=HQ0.out.2;omega
        have hq0:=HQ0.out.1;have HW8:=Lib.hid (show wrap64 (q+1)=q+1 from w64 (by omega) (by omega));have e8:=wrp (show wrap64 (q+1)=q+1 from w64 (by omega) (by omega));clear hr2 hnx hge hm13 hqb hq0;go_wp2_with fail
        refine(d_cmpNat' HR13.out (HYW.out _ HB13.out) (by omega) (by omega) HR2.out).mono ?_;rintro e w14 ⟨rfl,hb14⟩;have HB14:=Lib.hid (show Below wo.heap.size wo w14 from HB13.out.trans (hb14.mono HB13.out.size));have HR14:=Lib.hid (HR13.out.below hb14);clear hb14 HR13 HB13;go_wp2_with fail
        refine(d_subNat (P:=PQ P (.slice (some ⟨gq,0,none⟩) a.length cq)) HR14.out (HYW.out _ HB14.out) HGE2.out (by omega) (hP9.out _ HB14.out)).mono ?_;rintro e w15 ⟨A15,n15,c15,rfl,hr15,hb15⟩;have HR15:=Lib.hid hr15;have HB15:=Lib.hid (show Below wo.heap.size wo w15 from HB14.out.trans (hb15.mono HB14.out.size));clear hr15 hb15;go_wp2_with fail
        go_roundg m
        case measure=>exact Nat.lt_succ_self _
        case rel =>
         refine⟨A15,n15,c15,q+1,rfl,by first|rfl|rw [HW8.out],?_,by have:=HQ0.out.1;omega,?_,HNX.out,HB15.out⟩
         · rw [show X-u*(q+1)=X-u*q-u by rw [Int.mul_add];omega];exact HR15.out
         · have:=HGE2.out;rw [Int.mul_add];omega
     | succ m =>
      obtain⟨k,hk⟩:∃k,k=l7.length-(m+1):=⟨_,rfl⟩;rw [←hk]at HN12 ⊢;have hkl:k<l7.length:=by omega
      have HK:=Lib.hid (show l7.length-m=k+1∧l7.length=k+(m+1) by omega);clear hk;obtain⟨ad7,rfl,hg7⟩:=sd_get (HS7.out.below HB12.out) k hkl;obtain⟨hc0,hz0⟩:=own_cell HN12.out (k+1) (by omega);have e5:=wrp (show wrap64 ((k:Int)+1)=((k+1:Nat):Int) by rw [w64 (by omega) (by omega)];omega);go_wp2_with fail
      go_roundg m
      case measure=>exact Nat.lt_succ_self _
      case rel =>
       refine⟨by have:=HK.out.2;omega,by rw [HK.out.1];rfl,?_,bl_set HB12.out HGN.out _⟩;rw [HK.out.1,←cop_set HK.out.2]
       exact own_put HN12.out (k+1) _)
theorem d_divNat(hx:IsD P K w A n c z)(hy:IsD P K' w A' n' c' u)(hu:0<u)(hK:K≤10000000000)(hK':K'≤10000000000)(hP:∀k,w.heap.size≤k→P k) :
 Calls Tryz.prog 115 #[.slice A n c,.slice A' n' c'] w fun e w'=>∃(A1 A2:Option Addr) (n1 n2 c1 c2:Nat),e=.returned (.tuple #[.slice A1 n1 c1,.slice A2 n2 c2])∧IsD P K w' A1 n1 c1 (z/u)∧IsD P K' w' A2 n2 c2 (z%u)∧Below w.heap.size w w':=by
 rcases Int.lt_or_le z u with h|h
 · exact divNat_less hx hy hu h hK hK'
 · exact divNat_more hx hy hu h hK hK' hP
def GcdR(P:Nat→Prop)(K:Nat)(w:World)(z u:Int)(m:Nat)(v0 v1:Value)(W:World):Prop :=
 ∃(A n c A' n' c':_) (x y:Int),v0=.slice A n c∧v1=.slice A' n' c'∧IsD P K W A n c x∧IsD P K W A' n' c' y∧m=y.toNat∧Int.gcd x y=Int.gcd z u∧Below w.heap.size w W
theorem d_gcdNat(hx:IsD P K w A n c z)(hy:IsD P K w A' n' c' u)(hK:K≤10000000000)(hP:∀k,w.heap.size≤k→P k) :
 Calls Tryz.prog 84 #[.slice A n c,.slice A' n' c'] w fun e w'=>∃(A1:Option Addr) (n1 c1:Nat),e=.returned (.slice A1 n1 c1)∧IsD P K w' A1 n1 c1 (Int.gcd z u:Int)∧Below w.heap.size w w':=by
 have HX:=Lib.hid hx
 have HY:=Lib.hid hy
 have HP:=Lib.hid hP
 clear hx hy hP
 go_enter Tryz.func84,Tryz.ntmps84
 go_wp2_with fail
 go_loopg [0,1] u.toNat (fun m v0 v1 W=>GcdR P K w z u m v0 v1 W)
 case atStart=>exact ⟨A,n,c,A',n',c',z,u,rfl,rfl,HX.out,HY.out,rfl,rfl,Below.refl _ _⟩
 case round =>
  rename World=>wo
  obtain⟨A1,n1,c1,A2,n2,c2,x,y,rfl,rfl,h1,h2,h3,h4,h5⟩:=hrel;have H1:=Lib.hid h1;have H2:=Lib.hid h2;have H4:=Lib.hid h4;have H5:=Lib.hid h5;have hy0:=h2.nonneg;clear HX HY h1 h2 h4 h5;cases gk with
  | zero =>
   obtain rfl:y=0:=by omega
   obtain rfl:n2=0:=by
    obtain⟨l,rfl,_,h,_⟩:=H2.out;rw [(h.nil_iff (by decide)).2 rfl];rfl
   have HE:=Lib.hid (show IsD P K wo A1 n1 c1 (Int.gcd z u:Int)from by
    rw [←H4.out,Int.gcd_zero_right,Int.natAbs_of_nonneg H1.out.nonneg];exact H1.out)
   clear h3 hy0;go_wp2_with fail
   go_ret
   exact⟨A1,n1,c1,rfl,HE.out,H5.out⟩
  | succ m =>
   have hyp:0<y:=by omega
   have hn2:0<n2:=by
    rcases Nat.eq_zero_or_pos n2 with h|h
    · exfalso
      obtain⟨l,hl,_,hr,_⟩:=H2.out;have:=(hr.nil_iff (by decide)).1 (List.length_eq_zero_iff.1 (hl.trans h));omega
    · exact h
   have HYP:=Lib.hid hyp;have H3:=Lib.hid h3;clear hy0 hyp h3;go_wp2_with fail
   refine(d_divNat (P:=P) H1.out H2.out HYP.out hK hK (fun k hk=>HP.out k (Nat.le_trans H5.out.size hk))).mono ?_;rintro e w1 ⟨A3,A4,n3,n4,c3,c4,rfl,h6,h7,hb1⟩;have H7:=Lib.hid h7;have H2':=Lib.hid (H2.out.below hb1);have HB:=Lib.hid (H5.out.trans (hb1.mono H5.out.size));clear h6 h7 hb1;go_wp2_with fail
   go_roundg (x%y).toNat
   case measure=>have:=Int.emod_lt_of_pos x HYP.out;have:=H3.out;omega
   case rel=>exact ⟨A2,n2,c2,A4,n4,c4,y,x%y,rfl,rfl,H2'.out,H7.out,rfl,by rw [gcd_step H1.out.nonneg H2.out.nonneg,H4.out],HB.out⟩
end
end Go.Proofs.YtpdghgfbfmaplaaGreatDoor.Rf
end
