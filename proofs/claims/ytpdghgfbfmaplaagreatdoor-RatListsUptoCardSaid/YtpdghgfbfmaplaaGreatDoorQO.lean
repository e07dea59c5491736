/- Lemmas for RatLists. -/
import Derived.Test.YtpdghgfbfmaplaaGreatDoorQN
import Derived.Test.YtpdghgfbfmaplaaGreatDoorZWhL
set_option maxRecDepth 100000
set_option maxHeartbeats 8000000
section
set_option linter.unusedVariables false
namespace Go.Proofs.YtpdghgfbfmaplaaGreatDoor.Rf
open Go.RowKit Go.Proofs.YtpdghgfbfmaplaaGreatDoorW.PrintWords Go.Proofs.YtpdghgfbfmaplaaGreatDoor.Num Go.Proofs.YtpdghgfbfmaplaaGreatDoor.PRef Go.Proofs.YtpdghgfbfmaplaaGreatDoor.WhC
abbrev D:Int:=10000
theorem dg4{l:List Int}(h:Dg D l)(i:Nat):0≤at0 l i∧at0 l i<10000:=h.at0_ (by decide) i
theorem trim_l0{l:List Int}(hl:l.length≤17000000000000)(hd:Dg D l):∀(i:Nat),i≤l.length→∀n,val D (l.take i)=n→EvS (fun k=>linkworkref01_trim.l0 k l (i:Int)) (fun r=>Rep D r n)
 | 0,_,n,hn=>by
  refine EvS.done (r:=l.take 0) (fun k=>by simp only [linkworkref01_trim.l0];rw [if_neg (by omega),if_pos (by omega),if_pos (by omega)];rfl) ?_;simp [val]at hn;subst hn;exact Rep.zero D
 | i+1,hi,n,hn=>by
  have e1:wrap64 (((i+1:Nat):Int)-1)=(i:Int):=by rw [w64 (by omega) (by omega)];omega
  by_cases hx:at0 l i=0
  · refine EvS.step (trim_l0 hl hd i (by omega) n (by rw [←hn,val_take_succ,hx];simp)) (fun k=>?_);simp only [linkworkref01_trim.l0,e1,rd_nat];rw [if_pos (by omega),if_pos (by omega),if_pos (by omega),if_pos hx]
  · refine EvS.done (r:=l.take (i+1)) (fun k=>?_) ⟨hd.take _,?_,hn⟩
    · simp only [linkworkref01_trim.l0,e1,rd_nat];rw [if_pos (by omega),if_pos (by omega),if_pos (by omega),if_neg hx,if_pos (by omega),if_pos (by omega),Int.toNat_natCast]
    · rw [List.take_succ_eq_append_getElem (by omega),Nm_append_ne (by simp),←at0_lt];simp [Nm];exact hx
theorem trim_rep{l:List Int}{n:Int}(hl:l.length≤17000000000000)(hd:Dg D l)(hv:val D l=n):EvS (fun k=>linkworkref01_trim.f k l) (fun r=>Rep D r n) :=
 (trim_l0 hl hd l.length (Nat.le_refl _) n (by rw [List.take_length];exact hv)).congr (fun k=>rfl)
theorem trim_some{l:List Int}{n:Int}(hl:l.length≤17000000000000)(hd:Dg D l)(hv:val D l=n):EvS (fun k=>(linkworkref01_trim.f k l).bind fun t=>some t) (fun r=>Rep D r n) :=
 EvS.bind (trim_rep hl hd hv) (f:=fun k r=>some r) (fun r hr=>EvS.pure hr)
theorem natOf_l0:∀(d:Nat) (u:Int) (out:List Int),0≤u→u<10000^d→u≤18446744073709551615→d+out.length≤1000→Dg D out→(u=0→Nm out) →
 EvS (fun k=>linkworkref01_natOf.l0 k u out) (fun r=>Rep D r (val D out+D^out.length*u))
 | 0,u,out,h0,h1,h2,hl,hout,hn=>by
  have:u=0:=by simp at h1;omega
  subst this;exact EvS.done (r:=out) (fun k=>by simp [linkworkref01_natOf.l0]) ⟨hout,hn rfl,by simp⟩
 | d+1,u,out,h0,h1,h2,hl,hout,hn=>by
  by_cases hu:u=0
  · subst hu;exact EvS.done (r:=out) (fun k=>by simp [linkworkref01_natOf.l0]) ⟨hout,hn rfl,by simp⟩
  · have q1:u/10000<10000^d:=Int.ediv_lt_of_lt_mul (by decide) (by rw [Int.pow_succ]at h1;exact h1);refine EvS.step (h:=fun k=>linkworkref01_natOf.l0 k (u/10000) (out++ [u%10000])) ((natOf_l0 d (u/10000) (out++ [u%10000]) (by omega) q1 (by omega) (by simp;omega) ?_ ?_).mono ?_) (fun k=>?_)
    · rw [Dg_append];exact⟨hout,by intro x hx;simp at hx;subst hx;exact⟨by omega,by show _<(10000:Int);omega⟩⟩
    · intro hz;rw [Nm_append_ne (by simp)];simp [Nm];omega
    · intro r e2;rw [val_snoc,List.length_append,List.length_singleton,Int.pow_succ]at e2;have:val D out+D^out.length*(u%10000)+D^out.length*D*(u/10000)=val D out+D^out.length*u:=by
       generalize D^out.length=P at *
       have e:u%10000=u-10000*(u/10000):=by omega
       rw [e];generalize u/10000=q at *
       show val D out+P*(u-10000*q)+P*10000*q=_
       grind
      rw [this]at e2;exact e2
    · simp only [linkworkref01_natOf.l0];rw [if_pos (by omega),if_pos (by omega),Int.tdiv_eq_ediv_of_nonneg (by omega),Int.tmod_eq_emod_of_nonneg (by omega),wu64 (by omega) (by omega),w64 (by omega) (by omega)]
theorem natOf_rep(n:Int)(h1:0≤n)(h2:n≤18446744073709551615):EvS (fun k=>linkworkref01_natOf.f k n) (fun r=>Rep D r n):=by
 have h3:(10000:Int)^6=1000000000000000000000000:=by decide
 refine((natOf_l0 6 n [] h1 (by omega) h2 (by simp) (Dg.nil _) (fun _=>Nm.nil)).mono ?_).congr (fun k=>rfl)
 intro r hr
 simpa [val]using hr
theorem drop_lt{a b:List Int}(ha:Dg D a)(hb:Dg D b)(i:Nat)(hia:i<a.length)(hib:i<b.length)(hv:val D (a.drop (i+1))=val D (b.drop (i+1)))(h:at0 a i<at0 b i):val D a<val D b:=by
 have da:a.drop i=at0 a i :: a.drop (i+1):=by rw [List.drop_eq_getElem_cons (by omega),at0_lt (by omega)]
 have db:b.drop i=at0 b i :: b.drop (i+1):=by rw [List.drop_eq_getElem_cons (by omega),at0_lt (by omega)]
 have va:=val_take_drop D a i (by omega)
 have vb:=val_take_drop D b i (by omega)
 have la:=val_lt (by decide:(0:Int)<D) (ha.take i)
 have nb:=val_nonneg (by decide:(0:Int)<D) (hb.take i)
 rw [List.length_take,Nat.min_eq_left (by omega)]at la
 rw [da]at va
 rw [db]at vb
 simp only [val]at va vb
 rw [hv]at va
 have hp:=pow_pos' (by decide:(0:Int)<D) i
 generalize val D (a.take i)=ta at *
 generalize val D (b.take i)=tb at *
 generalize val D (b.drop (i+1))=dd at *
 generalize D^i=P at *
 have k1:=Int.mul_le_mul_of_nonneg_left (show at0 a i+1≤at0 b i by omega) (show 0≤P by omega)
 rw [Int.mul_add]at va vb k1
 generalize P*(D*dd)=Q at *
 generalize P*at0 a i=x at *
 generalize P*at0 b i=y at *
 omega
theorem cmpNat_l0{a b:List Int}(ha:Dg D a)(hb:Dg D b)(he:a.length=b.length)(hl:a.length≤17000000000000):∀(i:Nat),i≤a.length→val D (a.drop i)=val D (b.drop i) →
 EvS (fun k=>linkworkref01_cmpNat.l0 k a b ((i:Int)-1)) (fun r=>r=(val D a-val D b).sign)
 | 0,_,hv=>by
  refine EvS.done (r:=0) (fun k=>by simp only [linkworkref01_cmpNat.l0];rw [if_neg (by omega)]) ?_;simp at hv
  rw [hv];simp
 | i+1,hi,hv=>by
  have h0:=dg4 ha i;have h1:=dg4 hb i;have r1:rd a (((i+1:Nat):Int)-1)=at0 a i:=by rw [show (((i+1:Nat):Int)-1)=(i:Int) by omega,rd_nat]
  have r2:rd b (((i+1:Nat):Int)-1)=at0 b i:=by rw [show (((i+1:Nat):Int)-1)=(i:Int) by omega,rd_nat]
  rcases Int.lt_trichotomy (at0 a i) (at0 b i)with h|h|h
  · refine EvS.done (r:= -1) (fun k=>?_) ?_
    · simp only [linkworkref01_cmpNat.l0,r1,r2];rw [if_pos (by omega),if_pos (by omega),if_pos (by omega),if_pos (by omega),if_pos h]
    · have:=drop_lt ha hb i (by omega) (by omega) hv h;rw [Int.sign_eq_neg_one_of_neg (by omega)]
  · refine EvS.step (h:=fun k=>linkworkref01_cmpNat.l0 k a b ((i:Int)-1)) (cmpNat_l0 ha hb he hl i (by omega) ?_) (fun k=>?_)
    · have da:a.drop i=at0 a i :: a.drop (i+1):=by rw [List.drop_eq_getElem_cons (by omega),at0_lt (by omega)]
      have db:b.drop i=at0 b i :: b.drop (i+1):=by rw [List.drop_eq_getElem_cons (by omega),at0_lt (by omega)]
      rw [da,db];simp only [val];rw [h,hv]
    · simp only [linkworkref01_cmpNat.l0,r1,r2];rw [if_pos (by omega),if_pos (by omega),if_pos (by omega),if_pos (by omega),if_neg (by omega),if_neg (by omega),w64 (by omega) (by omega)];congr 1
      omega
  · refine EvS.done (r:=1) (fun k=>?_) ?_
    · simp only [linkworkref01_cmpNat.l0,r1,r2];rw [if_pos (by omega),if_pos (by omega),if_pos (by omega),if_pos (by omega),if_neg (by omega),if_pos (by omega)]
    · have:=drop_lt hb ha i (by omega) (by omega) hv.symm h;rw [Int.sign_eq_one_of_pos (by omega)]
theorem short_lt{x y:List Int}(dx:Dg D x)(dy:Dg D y)(ny:Nm y)(h:x.length<y.length):val D x<val D y:=by
 have h1:=val_lt (by decide:(0:Int)<D) dx
 have h2:=val_ge_of_Nm (by decide:(0:Int)<D) dy ny (by intro e;subst e;simp at h)
 have h3:D^x.length≤D^(y.length-1):=pow_mono (by decide) (by omega)
 omega
theorem cmpNat_rep{a b:List Int}{n m:Int}(ha:Rep D a n)(hb:Rep D b m)(hla:a.length≤17000000000000)(hlb:b.length≤17000000000000) :
 EvS (fun k=>linkworkref01_cmpNat.f k a b) (fun r=>r=(n-m).sign):=by
 obtain⟨da,na,rfl⟩:=ha
 obtain⟨db,nb,rfl⟩:=hb
 by_cases e:a.length=b.length
 · refine(cmpNat_l0 da db e hla a.length (Nat.le_refl _) (by rw [List.drop_of_length_le (by omega),List.drop_of_length_le (by omega)])).congr (fun k=>?_);simp only [linkworkref01_cmpNat.f];rw [if_pos (by omega),w64 (by omega) (by omega)]
 · rcases Nat.lt_or_gt_of_ne e with h|h
   · have:=short_lt da db nb h;refine(EvS.pure (r:=(-1:Int)) ?_).congr (fun k=>by simp only [linkworkref01_cmpNat.f];rw [if_neg (by omega),if_pos (by omega)]);rw [Int.sign_eq_neg_one_of_neg (by omega)]
   · have:=short_lt db da na h;refine(EvS.pure (r:=(1:Int)) ?_).congr (fun k=>by simp only [linkworkref01_cmpNat.f];rw [if_neg (by omega),if_neg (by omega)]);rw [Int.sign_eq_one_of_pos (by omega)]
theorem take_set{l:List Int}{i:Nat}{v:Int}(h:i<l.length):val D ((l.set i v).take (i+1))=val D (l.take i)+D^i*v:=by
 rw [val_take_succ,List.take_set_of_le (by omega),at0_lt (by simpa using h)];simp
theorem quo4(s:Int)(h0:0≤s)(h1:s≤100000000):wrap64 s=s∧Int.tmod s 10000=s%10000∧wrap64 (Int.tdiv s 10000)=s/10000:=by
 rw [Int.tdiv_eq_ediv_of_nonneg h0,Int.tmod_eq_emod_of_nonneg h0]
 exact⟨w64 (by omega) (by omega),rfl,w64 (by omega) (by omega)⟩
theorem w_add{i j:Nat}(h:i+j≤17000000000000):wrap64 ((i:Int)+(j:Int))=((i+j:Nat):Int):=by rw [w64 (by omega) (by omega)];omega
theorem w_succ{i:Nat}(h:i≤17000000000000):wrap64 ((i:Int)+1)=((i+1:Nat):Int):=by rw [w64 (by omega) (by omega)];omega
theorem addNat_11{a b out:List Int}{i:Nat}{c s:Int}(h1:(i:Int)<(out.length:Int))(h2:(i:Int)<(a.length:Int))(h0:(0:Int)≤(i:Int))(h3:(i:Int)<(b.length:Int))(e1:wrap64 (wrap64 (c+at0 a i)+at0 b i)=s)(e2:wrap64 s=s∧Int.tmod s 10000=s%10000∧wrap64 (Int.tdiv s 10000)=s/10000)(e4:wrap64 ((i:Int)+1)=((i+1:Nat):Int))(k:Nat) :
 linkworkref01_addNat.l0 (k+1) a b out c (i:Int)=linkworkref01_addNat.l0 k a b (out.set i (s%10000)) (s/10000) ((i+1:Nat):Int):=by
 simp only [linkworkref01_addNat.l0,rd_nat,e1,e2.2.1,e2.2.2,e4,Int.toNat_natCast]
 rw [if_pos h1,if_pos h2,if_pos h0,if_pos h3]
theorem addNat_10{a b out:List Int}{i:Nat}{c s:Int}(h1:(i:Int)<(out.length:Int))(h2:(i:Int)<(a.length:Int))(h0:(0:Int)≤(i:Int))(h3:¬(i:Int)<(b.length:Int))(e1:wrap64 (c+at0 a i)=s)(e2:wrap64 s=s∧Int.tmod s 10000=s%10000∧wrap64 (Int.tdiv s 10000)=s/10000)(e4:wrap64 ((i:Int)+1)=((i+1:Nat):Int))(k:Nat) :
 linkworkref01_addNat.l0 (k+1) a b out c (i:Int)=linkworkref01_addNat.l0 k a b (out.set i (s%10000)) (s/10000) ((i+1:Nat):Int):=by
 simp only [linkworkref01_addNat.l0,rd_nat,e1,e2.2.1,e2.2.2,e4,Int.toNat_natCast]
 rw [if_pos h1,if_pos h2,if_pos h0,if_neg h3]
theorem addNat_01{a b out:List Int}{i:Nat}{c s:Int}(h1:(i:Int)<(out.length:Int))(h2:¬(i:Int)<(a.length:Int))(h0:(0:Int)≤(i:Int))(h3:(i:Int)<(b.length:Int))(e1:wrap64 (c+at0 b i)=s)(e2:wrap64 s=s∧Int.tmod s 10000=s%10000∧wrap64 (Int.tdiv s 10000)=s/10000)(e4:wrap64 ((i:Int)+1)=((i+1:Nat):Int))(k:Nat) :
 linkworkref01_addNat.l0 (k+1) a b out c (i:Int)=linkworkref01_addNat.l0 k a b (out.set i (s%10000)) (s/10000) ((i+1:Nat):Int):=by
 simp only [linkworkref01_addNat.l0,rd_nat,e1,e2.2.1,e2.2.2,e4,Int.toNat_natCast]
 rw [if_pos h1,if_neg h2,if_pos h3,if_pos h0]
theorem addNat_00{a b out:List Int}{i:Nat}{s:Int}(h1:(i:Int)<(out.length:Int))(h2:¬(i:Int)<(a.length:Int))(h0:(0:Int)≤(i:Int))(h3:¬(i:Int)<(b.length:Int))(e2:wrap64 s=s∧Int.tmod s 10000=s%10000∧wrap64 (Int.tdiv s 10000)=s/10000)(e4:wrap64 ((i:Int)+1)=((i+1:Nat):Int))(k:Nat) :
 linkworkref01_addNat.l0 (k+1) a b out s (i:Int)=linkworkref01_addNat.l0 k a b (out.set i (s%10000)) (s/10000) ((i+1:Nat):Int):=by
 simp only [linkworkref01_addNat.l0,rd_nat,e2.2.1,e2.2.2,e4,Int.toNat_natCast]
 rw [if_pos h1,if_neg h2,if_neg h3,if_pos h0]
theorem addNat_l0{a b:List Int}(ha:Dg D a)(hb:Dg D b)(N:Nat)(hN:N≤17000000000000)(hla:a.length<N)(hlb:b.length<N):∀(d i:Nat) (out:List Int) (c:Int),i+d=N→out.length=N→Dg D out→0≤c∧c≤1 →
 val D (out.take i)+D^i*c=val D (a.take i)+val D (b.take i) →
 EvS (fun k=>linkworkref01_addNat.l0 k a b out c (i:Int)) (fun r=>Rep D r (val D a+val D b))
 | 0,i,out,c,hd,ho,hout,hc,hv=>by
  obtain rfl:i=N:=by omega
  rw [List.take_of_length_le (by omega),List.take_of_length_le (by omega),List.take_of_length_le (by omega)]at hv;have h1:=val_lt (by decide:(0:Int)<D) ha;have h2:=val_lt (by decide:(0:Int)<D) hb;have h3:D^a.length≤D^(i-1):=pow_mono (by decide) (by omega);have h4:D^b.length≤D^(i-1):=pow_mono (by decide) (by omega);have h5:D^i=D^(i-1)*D:=by conv=>lhs;rw [show i=i-1+1 by omega,Int.pow_succ]
  have h6:=val_nonneg (by decide:(0:Int)<D) hout;have h7:=pow_pos' (by decide:(0:Int)<D) (i-1);have hc0:c=0:=by
   rcases(by omega:c=0∨c=1)with e|e
   · exact e
   · subst e;rw [h5]at hv;have e2:D^(i-1)*D=10000*D^(i-1):=Int.mul_comm _ _;omega
  subst hc0;refine EvS.step (trim_some (l:=out) (n:=val D a+val D b) (by omega) hout (by omega)) (fun k=>?_);simp only [linkworkref01_addNat.l0];rw [if_neg (by omega)]
 | d+1,i,out,c,hd,ho,hout,hc,hv=>by
  have h0:=dg4 ha i;have h1:=dg4 hb i;have next:=fun (s:Int) (hs:s=c+at0 a i+at0 b i)=>addNat_l0 ha hb N hN hla hlb d (i+1) (out.set i (s%10000)) (s/10000) (by omega) (by simp [ho])
   (hout.set i ⟨by omega,by show _<(10000:Int);omega⟩) (by omega) (by
    rw [take_set (by omega),val_take_succ,val_take_succ,Int.pow_succ];have e1:s%10000=s-10000*(s/10000):=by omega
    rw [e1];generalize s/10000=q at *
    subst hs;generalize D^i=P at *
    show val D (out.take i)+P*(c+at0 a i+at0 b i-10000*q)+P*10000*q=_
    grind)
  by_cases ca:i<a.length
  · by_cases cb:i<b.length
    · exact EvS.step (next (c+at0 a i+at0 b i) rfl) (fun k=>addNat_11 (by omega) (by omega) (by omega) (by omega) (by rw [w64 (x:=c+at0 a i) (by omega) (by omega),w64 (by omega) (by omega)]) (quo4 _ (by omega) (by omega)) (w_succ (by omega)) k)
    · exact EvS.step (next (c+at0 a i) (by rw [at0_ge (l:=b) (by omega)];omega)) (fun k=>addNat_10 (by omega) (by omega) (by omega) (by omega) (w64 (by omega) (by omega)) (quo4 _ (by omega) (by omega)) (w_succ (by omega)) k)
  · by_cases cb:i<b.length
    · exact EvS.step (next (c+at0 b i) (by rw [at0_ge (l:=a) (by omega)];omega)) (fun k=>addNat_01 (by omega) (by omega) (by omega) (by omega) (w64 (by omega) (by omega)) (quo4 _ (by omega) (by omega)) (w_succ (by omega)) k)
    · exact EvS.step (next c (by rw [at0_ge (l:=a) (by omega),at0_ge (l:=b) (by omega)];omega)) (fun k=>addNat_00 (by omega) (by omega) (by omega) (by omega) (quo4 _ (by omega) (by omega)) (w_succ (by omega)) k)
theorem addNat_rep{a b:List Int}{n m:Int}(ha:Rep D a n)(hb:Rep D b m)(hla:a.length≤16000000000000)(hlb:b.length≤16000000000000) :
 EvS (fun k=>linkworkref01_addNat.f k a b) (fun r=>Rep D r (n+m)):=by
 obtain⟨da,na,rfl⟩:=ha
 obtain⟨db,nb,rfl⟩:=hb
 have e:wrap64 ((mx (a.length:Int) (b.length:Int))+1)=((max a.length b.length+1:Nat):Int):=by
  rw [w64 (by unfold mx;omega) (by unfold mx;omega)];unfold mx;omega
 refine(addNat_l0 da db (max a.length b.length+1) (by omega) (by omega) (by omega) _ 0 (List.replicate (max a.length b.length+1) 0) 0 (Nat.zero_add _) (by simp) (Dg.replicate (by decide) _) (by omega) (by simp [val])).congr (fun k=>?_)
 simp only [linkworkref01_addNat.f,e]
 rw [if_pos (by omega),if_pos (by omega),Int.toNat_natCast]
 rfl
theorem subNat_11{a b out:List Int}{i:Nat}{c s:Int}(h1:(i:Int)<(a.length:Int))(h0:(0:Int)≤(i:Int))(h2:(i:Int)<(out.length:Int))(h3:(i:Int)<(b.length:Int))(e1:wrap64 (wrap64 (at0 a i-c)-at0 b i)=s)(e3:wrap64 (s+10000)=s+10000)(hs:s<0)(e4:wrap64 ((i:Int)+1)=((i+1:Nat):Int))(k:Nat) :
 linkworkref01_subNat.l0 (k+1) a b out c (i:Int)=linkworkref01_subNat.l0 k a b (out.set i (s+10000)) 1 ((i+1:Nat):Int):=by
 simp only [linkworkref01_subNat.l0,rd_nat,e1,e3,e4,Int.toNat_natCast]
 rw [if_pos h1,if_pos h0,if_pos h3,if_pos hs,if_pos h2]
theorem subNat_10{a b out:List Int}{i:Nat}{c s:Int}(h1:(i:Int)<(a.length:Int))(h0:(0:Int)≤(i:Int))(h2:(i:Int)<(out.length:Int))(h3:(i:Int)<(b.length:Int))(e1:wrap64 (wrap64 (at0 a i-c)-at0 b i)=s)(hs:¬s<0)(e4:wrap64 ((i:Int)+1)=((i+1:Nat):Int))(k:Nat) :
 linkworkref01_subNat.l0 (k+1) a b out c (i:Int)=linkworkref01_subNat.l0 k a b (out.set i s) 0 ((i+1:Nat):Int):=by
 simp only [linkworkref01_subNat.l0,rd_nat,e1,e4,Int.toNat_natCast]
 rw [if_pos h1,if_pos h0,if_pos h3,if_neg hs,if_pos h2]
theorem subNat_01{a b out:List Int}{i:Nat}{c s:Int}(h1:(i:Int)<(a.length:Int))(h0:(0:Int)≤(i:Int))(h2:(i:Int)<(out.length:Int))(h3:¬(i:Int)<(b.length:Int))(e1:wrap64 (at0 a i-c)=s)(e3:wrap64 (s+10000)=s+10000)(hs:s<0)(e4:wrap64 ((i:Int)+1)=((i+1:Nat):Int))(k:Nat) :
 linkworkref01_subNat.l0 (k+1) a b out c (i:Int)=linkworkref01_subNat.l0 k a b (out.set i (s+10000)) 1 ((i+1:Nat):Int):=by
 simp only [linkworkref01_subNat.l0,rd_nat,e1,e3,e4,Int.toNat_natCast]
 rw [if_pos h1,if_pos h0,if_neg h3,if_pos hs,if_pos h2]
theorem subNat_00{a b out:List Int}{i:Nat}{c s:Int}(h1:(i:Int)<(a.length:Int))(h0:(0:Int)≤(i:Int))(h2:(i:Int)<(out.length:Int))(h3:¬(i:Int)<(b.length:Int))(e1:wrap64 (at0 a i-c)=s)(hs:¬s<0)(e4:wrap64 ((i:Int)+1)=((i+1:Nat):Int))(k:Nat) :
 linkworkref01_subNat.l0 (k+1) a b out c (i:Int)=linkworkref01_subNat.l0 k a b (out.set i s) 0 ((i+1:Nat):Int):=by
 simp only [linkworkref01_subNat.l0,rd_nat,e1,e4,Int.toNat_natCast]
 rw [if_pos h1,if_pos h0,if_neg h3,if_neg hs,if_pos h2]
theorem subNat_l0{a b:List Int}(ha:Dg D a)(hb:Dg D b)(hl:a.length≤17000000000000)(hab:val D b≤val D a):∀(d i:Nat) (out:List Int) (c:Int),i+d=a.length→out.length=a.length→Dg D out→0≤c∧c≤1 →
 val D (out.take i)-D^i*c=val D (a.take i)-val D (b.take i) →
 EvS (fun k=>linkworkref01_subNat.l0 k a b out c (i:Int)) (fun r=>Rep D r (val D a-val D b))
 | 0,i,out,c,hd,ho,hout,hc,hv=>by
  obtain rfl:i=a.length:=by omega
  rw [List.take_of_length_le (by omega),List.take_of_length_le (Nat.le_refl _)]at hv;have hB:(0:Int)<D:=by decide
  have r1:=val_lt hB hout;have b1:=val_nonneg hB (hb.drop a.length);have a1:=val_lt hB ha;have bt:=val_nonneg hB (hb.take a.length);rw [ho]at r1;have hP:=pow_pos' hB a.length;have hbv:val D b=val D (b.take a.length)+D^a.length*val D (b.drop a.length):=by
   by_cases h:a.length≤b.length
   · exact val_take_drop D b _ h
   · rw [List.take_of_length_le (by omega),List.drop_of_length_le (by omega)];simp [val]
  have hdz:val D (b.drop a.length)=0:=by
   rcases Int.lt_or_le 0 (val D (b.drop a.length))with h|h
   · have:=Int.mul_le_mul_of_nonneg_left (show(1:Int)≤val D (b.drop a.length) by omega) (show 0≤D^a.length by omega);omega
   · omega
  rw [hdz]at hbv;simp only [Int.mul_zero,Int.add_zero]at hbv;have hc0:c=0:=by
   rcases(by omega:c=0∨c=1)with e|e
   · exact e
   · subst e;rw [←hbv]at hv;omega
  subst hc0;refine EvS.step (trim_some (l:=out) (n:=val D a-val D b) (by omega) hout (by rw [hbv];omega)) (fun k=>?_);simp only [linkworkref01_subNat.l0];rw [if_neg (by omega)]
 | d+1,i,out,c,hd,ho,hout,hc,hv=>by
  have h0:=dg4 ha i;have h1:=dg4 hb i;have next:=fun (v c':Int) (hv0:0≤v) (hv1:v<10000) (hc':0≤c'∧c'≤1) (he:v-10000*c'=at0 a i-c-at0 b i)=>subNat_l0 ha hb hl hab d (i+1) (out.set i v) c' (by omega) (by simp [ho])
   (hout.set i ⟨hv0,hv1⟩) hc' (by
    rw [take_set (by omega),val_take_succ,val_take_succ,Int.pow_succ];generalize D^i=P at *
    have:v=at0 a i-c-at0 b i+10000*c':=by omega
    subst this;show val D (out.take i)+P*(at0 a i-c-at0 b i+10000*c')-P*10000*c'=_
    grind)
  by_cases cb:i<b.length
  · by_cases hs:at0 a i-c-at0 b i<0
    · exact EvS.step (next (at0 a i-c-at0 b i+10000) 1 (by omega) (by omega) (by omega) (by omega)) (fun k=>subNat_11 (by omega) (by omega) (by omega) (by omega) (by rw [w64 (x:=at0 a i-c) (by omega) (by omega),w64 (by omega) (by omega)]) (w64 (by omega) (by omega)) hs (w_succ (by omega)) k)
    · exact EvS.step (next (at0 a i-c-at0 b i) 0 (by omega) (by omega) (by omega) (by omega)) (fun k=>subNat_10 (by omega) (by omega) (by omega) (by omega) (by rw [w64 (x:=at0 a i-c) (by omega) (by omega),w64 (by omega) (by omega)]) hs (w_succ (by omega)) k)
  · have hz:at0 b i=0:=at0_ge (by omega);by_cases hs:at0 a i-c<0
    · exact EvS.step (next (at0 a i-c+10000) 1 (by omega) (by omega) (by omega) (by omega)) (fun k=>subNat_01 (by omega) (by omega) (by omega) (by omega) (w64 (by omega) (by omega)) (w64 (by omega) (by omega)) hs (w_succ (by omega)) k)
    · exact EvS.step (next (at0 a i-c) 0 (by omega) (by omega) (by omega) (by omega)) (fun k=>subNat_00 (by omega) (by omega) (by omega) (by omega) (w64 (by omega) (by omega)) hs (w_succ (by omega)) k)
theorem subNat_rep{a b:List Int}{n m:Int}(ha:Rep D a n)(hb:Rep D b m)(hl:a.length≤17000000000000)(h:m≤n) :
 EvS (fun k=>linkworkref01_subNat.f k a b) (fun r=>Rep D r (n-m)):=by
 obtain⟨da,na,rfl⟩:=ha
 obtain⟨db,nb,rfl⟩:=hb
 refine(subNat_l0 da db hl h a.length 0 (List.replicate a.length 0) 0 (Nat.zero_add _) (by simp) (Dg.replicate (by decide) _) (by omega) (by simp [val])).congr (fun k=>?_)
 simp only [linkworkref01_subNat.f]
 rw [if_pos (by omega),if_pos (by omega),Int.toNat_natCast]
 rfl
theorem top_l0{a:List Int}(ha:Dg D a)(hl:a.length≤17000000000000)(from_:Nat)(hf:a.length≤from_+4):∀(d i:Nat),from_+d=i→i≤a.length →
 EvS (fun k=>linkworkref01_top.l0 k a (from_:Int) (val D (a.drop i)) ((i:Int)-1)) (fun r=>r=val D (a.drop from_))
 | 0,i,hd,hi=>by
  obtain rfl:from_=i:=by omega
  refine EvS.done (r:=val D (a.drop from_)) (fun k=>by simp only [linkworkref01_top.l0];rw [if_neg (by omega)]) rfl
 | d+1,i,hd,hi=>by
  obtain⟨j,rfl⟩:∃j,i=j+1:=⟨i-1,by omega⟩;have h0:=dg4 ha j;have da:a.drop j=at0 a j :: a.drop (j+1):=by rw [List.drop_eq_getElem_cons (by omega),at0_lt (by omega)]
  have hd1:val D (a.drop j)=at0 a j+10000*val D (a.drop (j+1)):=by rw [da];rfl
  have b0:=val_nonneg (by decide:(0:Int)<D) (ha.drop j);have b1:=val_nonneg (by decide:(0:Int)<D) (ha.drop (j+1));have b2:=val_lt (by decide:(0:Int)<D) (ha.drop j);have b3:D^(a.drop j).length≤D^4:=pow_mono (by decide) (by rw [List.length_drop];omega);have b4:D^4=10000000000000000:=by decide
  have r1:rd a (((j+1:Nat):Int)-1)=at0 a j:=by rw [show (((j+1:Nat):Int)-1)=(j:Int) by omega,rd_nat]
  refine EvS.step (h:=fun k=>linkworkref01_top.l0 k a (from_:Int) (val D (a.drop j)) ((j:Int)-1)) (top_l0 ha hl from_ hf d j (by omega) (by omega)) (fun k=>?_);simp only [linkworkref01_top.l0,r1];rw [if_pos (by omega),if_pos (by omega),if_pos (by omega),if_pos (by omega),w64 (x:=val D (a.drop (j+1))*10000) (by omega) (by omega),w64 (by omega) (by omega),w64 (by omega) (by omega)];congr 1 <;> omega
theorem top_rep{a:List Int}(ha:Dg D a)(hl:a.length≤17000000000000)(from_:Nat)(hf:a.length≤from_+4)(h2:from_≤17000000000000):EvS (fun k=>linkworkref01_top.f k a (from_:Int)) (fun r=>r=val D (a.drop from_)):=by
 by_cases h:from_≤a.length
 · refine(top_l0 ha hl from_ hf (a.length-from_) a.length (by omega) (Nat.le_refl _)).congr (fun k=>?_);simp only [linkworkref01_top.f];rw [w64 (by omega) (by omega),List.drop_of_length_le (Nat.le_refl _)];rfl
 · refine EvS.done (r:=0) (fun k=>?_) (by rw [List.drop_of_length_le (by omega)];rfl);simp only [linkworkref01_top.f,linkworkref01_top.l0];rw [w64 (by omega) (by omega),if_neg (by omega)]
theorem drop_val(l:List Int)(j:Nat):val D (l.drop j)=at0 l j+D*val D (l.drop (j+1)):=by
 by_cases h:j<l.length
 · rw [List.drop_eq_getElem_cons h,at0_lt h];rfl
 · rw [List.drop_of_length_le (by omega),List.drop_of_length_le (by omega),at0_ge (by omega)];rfl
theorem mulNat_val{b out:List Int}(i j:Nat)(x c s:Int)(hij:i+j<out.length)(hs:s=x*at0 b j+at0 out (i+j)+c) :
 val D (out.set (i+j) (s%10000))+D^(i+(j+1))*(s/10000)+D^i*x*(D^(j+1)*val D (b.drop (j+1)))=val D out+D^(i+j)*c+D^i*x*(D^j*val D (b.drop j)):=by
 rw [val_set _ _ _ _ (by omega),drop_val b j]
 rw [show i+(j+1)=i+j+1 by omega,Int.pow_succ,Int.pow_succ,Int.pow_add]
 have e:s%10000=s-10000*(s/10000):=by omega
 rw [e]
 generalize s/10000=q at *
 generalize at0 out (i+j)=oo at *
 generalize at0 b j=bb at *
 subst hs
 generalize D^i=P at *
 generalize D^j=R at *
 generalize val D (b.drop (j+1))=E at *
 generalize val D out=V at *
 clear e
 show V+P*R*(x*bb+oo+c-10000*q-oo)+P*R*10000*q+P*x*(R*10000*E)=V+P*R*c+P*x*(R*(bb+10000*E))
 grind
theorem mulNat_true{a b out:List Int}(i j:Nat)(x c s y o p:Int)(hx:at0 a i=x)(ho:at0 out (i+j)=o)(hy:at0 b j=y)(hp:x*y=p)(hs:o+c+p=s)(g0:(i:Int)<a.length)
 (g1:(j:Int)<(b.length:Int)) (g3:(0:Int)≤((i+j:Nat):Int)) (g4:((i+j:Nat):Int)<(out.length:Int))
 (w1:wrap64 ((i:Int)+(j:Int))=((i+j:Nat):Int)) (w4:wrap64 p=p) (w5:wrap64 (o+c)=o+c)
 (w7:wrap64 s=s∧Int.tmod s 10000=s%10000∧wrap64 (Int.tdiv s 10000)=s/10000) (w11:wrap64 ((j:Int)+1)=((j+1:Nat):Int)) (k:Nat) :
 linkworkref01_mulNat.j2 (k+1) a b out (i:Int) c (j:Int) true=linkworkref01_mulNat.l1 k a b (out.set (i+j) (s%10000)) (i:Int) (s/10000) ((j+1:Nat):Int):=by
 simp only [linkworkref01_mulNat.j2,rd_nat,hx,ho,hy,hp,w1,w4,w5,hs,w7.1,w7.2.1,w7.2.2,w11,Int.toNat_natCast]
 rw [if_pos trivial,if_pos g3,if_pos g4,if_pos g1,if_pos (Int.natCast_nonneg i),if_pos g0,if_pos (Int.natCast_nonneg j)]
theorem mulNat_more{a b out:List Int}(i j:Nat)(c s o:Int)(ho:at0 out (i+j)=o)(hs:o+c=s)
 (g1:¬(j:Int)<(b.length:Int)) (g3:(0:Int)≤((i+j:Nat):Int)) (g4:((i+j:Nat):Int)<(out.length:Int))
 (w1:wrap64 ((i:Int)+(j:Int))=((i+j:Nat):Int))
 (w7:wrap64 s=s∧Int.tmod s 10000=s%10000∧wrap64 (Int.tdiv s 10000)=s/10000) (w11:wrap64 ((j:Int)+1)=((j+1:Nat):Int)) (k:Nat) :
 linkworkref01_mulNat.j2 (k+1) a b out (i:Int) c (j:Int) true=linkworkref01_mulNat.l1 k a b (out.set (i+j) (s%10000)) (i:Int) (s/10000) ((j+1:Nat):Int):=by
 simp only [linkworkref01_mulNat.j2,rd_nat,ho,w1,hs,w7.1,w7.2.1,w7.2.2,w11,Int.toNat_natCast]
 rw [if_pos trivial,if_pos g3,if_pos g4,if_neg g1]
theorem mulNat_l1{S:List Int→Prop}{a b:List Int}(hb:Dg D b)(L i:Nat)(x:Int)(hx:0≤x∧x<10000)(hxa:at0 a i=x)(hia:i<a.length)(hL:L≤3000000000000)(T:Int)(hi:i+b.length<L)
 (hT:T<D^L) (next:∀out:List Int,Dg D out→out.length=L→val D out=T→EvS (fun k=>linkworkref01_mulNat.l0 k a b out ((i+1:Nat):Int)) S) :
 ∀(d j:Nat) (out:List Int) (c:Int),i+j+d=L→Dg D out→out.length=L→0≤c∧c<10000→val D out+D^(i+j)*c+D^i*x*(D^j*val D (b.drop j))=T →
  EvS (fun k=>linkworkref01_mulNat.l1 k a b out (i:Int) c (j:Int)) S:=by
 have stop:∀(j:Nat) (out:List Int),b.length≤j→j≤L→Dg D out→out.length=L→val D out+D^(i+j)*0+D^i*x*(D^j*val D (b.drop j))=T→EvS (fun k=>linkworkref01_mulNat.l1 k a b out (i:Int) 0 (j:Int)) S:=by
  intro j out hj hjL hout ho hv;rw [List.drop_of_length_le hj]at hv;simp only [val,Int.mul_zero,Int.add_zero]at hv;refine EvS.step (h:=fun k=>linkworkref01_mulNat.j2 k a b out (i:Int) 0 (j:Int) false) (EvS.step (next out hout ho hv) (fun k=>?_)) (fun k=>?_)
  · simp only [linkworkref01_mulNat.j2];rw [if_neg (by decide),w64 (by omega) (by omega)];rfl
  · simp only [linkworkref01_mulNat.l1];rw [if_neg (by omega)];rfl
 intro d
 induction d with
 | zero =>
  intro j out c hd hout ho hc hv;have hc0:c=0:=by
   rw [List.drop_of_length_le (by omega)]at hv;simp only [val,Int.mul_zero,Int.add_zero]at hv;rcases Int.lt_or_le 0 c with h|h
   · have h1:=val_nonneg (by decide:(0:Int)<D) hout;have h2:=pow_pos' (by decide:(0:Int)<D) L;have h3:D^(i+j)=D^L:=by rw [show i+j=L by omega]
     rw [h3]at hv;have h4:=Int.mul_le_mul_of_nonneg_left (show(1:Int)≤c by omega) (Int.le_of_lt h2);omega
   · omega
  subst hc0;exact stop j out (by omega) (by omega) hout ho hv
 | succ d ih =>
  intro j out c hd hout ho hc hv;have h0:=dg4 hout (i+j);have h1:=dg4 hb j;by_cases cb:j<b.length
  · have p0:0≤x*at0 b j:=Int.mul_nonneg hx.1 h1.1;have p1:x*at0 b j≤9999*9999:=Int.mul_le_mul (by omega) (by omega) h1.1 (by decide);obtain⟨p,hp⟩:∃p,x*at0 b j=p:=⟨_,rfl⟩;obtain⟨s,hs⟩:∃s,s=p+at0 out (i+j)+c:=⟨_,rfl⟩;rw [hp]at p0 p1
    have hn:=ih (j+1) (out.set (i+j) (s%10000)) (s/10000) (by omega) (hout.set _ ⟨by omega,by show _<(10000:Int);omega⟩) (by simp [ho]) (by omega) (by
     rw [←hv];exact mulNat_val i j x c s (by omega) (by rw [hp];exact hs))
    refine EvS.step (h:=fun k=>linkworkref01_mulNat.j2 k a b out (i:Int) c (j:Int) true) (EvS.step hn (fun k=>?_)) (fun k=>?_)
    · exact mulNat_true i j x c s _ _ p hxa rfl rfl hp (by omega) (by omega) (by omega) (by omega) (by omega) (w_add (by omega)) (w64 (by omega) (by omega)) (w64 (by omega) (by omega)) (quo4 s (by omega) (by omega)) (w_succ (by omega)) k
    · simp only [linkworkref01_mulNat.l1];rw [if_pos (by omega)]
  · by_cases hc0:c=0
    · subst hc0;exact stop j out (by omega) (by omega) hout ho hv
    · have hz:at0 b j=0:=at0_ge (by omega);obtain⟨s,hs⟩:∃s,s=at0 out (i+j)+c:=⟨_,rfl⟩
      have hn:=ih (j+1) (out.set (i+j) (s%10000)) (s/10000) (by omega) (hout.set _ ⟨by omega,by show _<(10000:Int);omega⟩) (by simp [ho]) (by omega) (by
       rw [←hv];exact mulNat_val i j x c s (by omega) (by rw [hz];omega))
      refine EvS.step (h:=fun k=>linkworkref01_mulNat.j2 k a b out (i:Int) c (j:Int) true) (EvS.step hn (fun k=>?_)) (fun k=>?_)
      · exact mulNat_more i j c s _ rfl hs.symm (by omega) (by omega) (by omega) (w_add (by omega)) (quo4 s (by omega) (by omega)) (w_succ (by omega)) k
      · simp only [linkworkref01_mulNat.l1];rw [if_neg (by omega),decide_eq_true (by omega)]
theorem mulNat_l0{a b:List Int}(ha:Dg D a)(hb:Dg D b)(hla:a.length≤400000000000)(hlb:b.length≤400000000000):∀(d i:Nat) (out:List Int),i+d=a.length→Dg D out→out.length=a.length+b.length+1→val D out=val D (a.take i)*val D b →
 EvS (fun k=>linkworkref01_mulNat.l0 k a b out (i:Int)) (fun r=>Rep D r (val D a*val D b))
 | 0,i,out,hd,hout,ho,hv=>by
  obtain rfl:i=a.length:=by omega
  rw [List.take_of_length_le (Nat.le_refl _)]at hv;refine EvS.step (trim_some (l:=out) (n:=val D a*val D b) (by omega) hout hv) (fun k=>?_);simp only [linkworkref01_mulNat.l0];rw [if_neg (by omega)]
 | d+1,i,out,hd,hout,ho,hv=>by
  have hB:(0:Int)<D:=by decide
  have h0:=dg4 ha i;have ea:=val_take_succ D a i;have T1:val D (a.take (i+1))*val D b<D^(a.length+b.length+1):=by
   have t1:=val_lt hB (ha.take (i+1));have t0:=val_nonneg hB (ha.take (i+1));have u1:=val_lt hB hb;have u0:=val_nonneg hB hb;rw [List.length_take]at t1;have t2:D^(min (i+1) a.length)≤D^a.length:=pow_mono (by decide) (by omega);have t3:val D (a.take (i+1))*val D b≤D^a.length*val D b:=Int.mul_le_mul_of_nonneg_right (by omega) u0;have t4:D^a.length*(val D b+1)≤D^a.length*D^b.length:=Int.mul_le_mul_of_nonneg_left (by omega) (Int.le_of_lt (pow_pos' hB _));rw [←Int.pow_add]at t4;have t5:D^(a.length+b.length)≤D^(a.length+b.length+1):=pow_mono (by decide) (by omega);have t6:D^a.length*(val D b+1)=D^a.length*val D b+D^a.length:=by grind
   have t7:=pow_pos' hB a.length;omega
  refine EvS.step (mulNat_l1 (S:=fun r=>Rep D r (val D a*val D b)) (a:=a) hb (a.length+b.length+1) i (at0 a i) h0 rfl (by omega) (by omega) (val D (a.take (i+1))*val D b) (by omega) T1 (fun out' h1 h2 h3=>mulNat_l0 ha hb hla hlb d (i+1) out' (by omega) h1 h2 h3) (a.length+b.length+1-i) 0 out 0 (by omega) hout ho (by omega) ?_) (fun k=>?_)
  · rw [hv,ea];simp only [List.drop_zero,Int.pow_zero,Int.mul_zero];generalize D^i=P at *
    grind
  · simp only [linkworkref01_mulNat.l0];rw [if_pos (by omega)];rfl
theorem mulNat_rep{a b:List Int}{n m:Int}(ha:Rep D a n)(hb:Rep D b m)(hla:a.length≤400000000000)(hlb:b.length≤400000000000) :
 EvS (fun k=>linkworkref01_mulNat.f k a b) (fun r=>Rep D r (n*m)):=by
 obtain⟨da,na,rfl⟩:=ha
 obtain⟨db,nb,rfl⟩:=hb
 refine(mulNat_l0 da db hla hlb a.length 0 (List.replicate (a.length+b.length+1) 0) (by omega) (Dg.replicate (by decide) _) (by simp) (by rw [val_replicate];simp [val])).congr (fun k=>?_)
 have e:wrap64 ((wrap64 ((a.length:Int)+(b.length:Int)))+1)=((a.length+b.length+1:Nat):Int):=by
  rw [w64 (x:=(a.length:Int)+(b.length:Int)) (by omega) (by omega),w64 (by omega) (by omega)];omega
 simp only [linkworkref01_mulNat.f,e]
 rw [if_pos (by omega),if_pos (by omega),Int.toNat_natCast]
 rfl
end Go.Proofs.YtpdghgfbfmaplaaGreatDoor.Rf
end
section
set_option linter.unusedVariables false
namespace Go.Proofs.YtpdghgfbfmaplaaGreatDoor.Rf
open Go.RowKit Go.Proofs.YtpdghgfbfmaplaaGreatDoorW.PrintWords Go.Proofs.YtpdghgfbfmaplaaGreatDoor.Num Go.Proofs.YtpdghgfbfmaplaaGreatDoor.PRef Go.Proofs.YtpdghgfbfmaplaaGreatDoor.WhC Go.Proofs.YtpdghgfbfmaplaaGreatDoor.Dec
theorem dec_len_of:∀ {k n:Nat},10^k≤n→n<10^(k+1)→(dec n).length=k+1
 | 0,n,h1,h2=>by rw [dec_small (by simpa using h2)];rfl
 | k+1,n,h1,h2=>by
  rw [Nat.pow_succ]at h1 h2;have hp:0<10^k:=Nat.pow_pos (by decide);rw [dec_big (by omega),List.length_append,dec_len_of (k:=k) (n:=n/10) (by omega) (by omega)];rfl
theorem dec_len_ex(n:Nat):0<n→∃k,(dec n).length=k+1∧10^k≤n∧n<10^(k+1):=by
 induction n using dec.induct with
 | case1 n h=>intro hn;exact⟨0,by rw [dec_small h];rfl,by simp;omega,by simpa using h⟩
 | case2 n h ih =>
  intro hn;obtain⟨k,h1,h2,h3⟩:=ih (by omega);refine⟨k+1,by rw [dec_big (by omega),List.length_append,h1];rfl,?_,?_⟩
  · rw [Nat.pow_succ];omega
  · rw [Nat.pow_succ];omega
theorem sizeNat_l0:∀(d:Nat) (m x:Int),0≤x→x<10^d→d≤10→0≤m→m+d≤100000000000000 →
 EvS (fun k=>linkworkref01_sizeNat.l0 k m x) (fun r=>r=m+(if x=0 then 0 else((dec x.toNat).length:Int)))
 | 0,m,x,h0,h1,h2,h3,h4=>by
  obtain rfl:x=0:=by simp at h1;omega
  exact EvS.done (r:=m) (fun k=>by simp [linkworkref01_sizeNat.l0]) (by simp)
 | d+1,m,x,h0,h1,h2,h3,h4=>by
  by_cases hx:x=0
  · subst hx;exact EvS.done (r:=m) (fun k=>by simp [linkworkref01_sizeNat.l0]) (by simp)
  · refine EvS.step ((sizeNat_l0 d (m+1) (x/10) (by omega) (Int.ediv_lt_of_lt_mul (by decide) (by rw [Int.pow_succ]at h1;exact h1)) (by omega) (by omega) (by omega)).mono ?_) (fun k=>?_)
    · rintro r rfl;rw [if_neg hx];by_cases h10:x<10
      · rw [if_pos (by omega),dec_small (by omega)];simp
      · rw [if_neg (by omega),dec_big (n:=x.toNat) (by omega),List.length_append,show (x/10).toNat=x.toNat/10 by omega];simp;omega
    · have hx10:x<10000000000:=Int.lt_of_lt_of_le h1 (pow_mono (B:=10) (m:=d+1) (n:=10) (by decide) h2);simp only [linkworkref01_sizeNat.l0];rw [if_pos (by omega),w64 (x:=m+1) (by omega) (by omega),Int.tdiv_eq_ediv_of_nonneg h0];rw [w64 (by omega) (by omega)]
theorem toNat_pow(k:Nat):((10000:Int)^k).toNat=10^(4*k):=by
 rw [show (10000:Int)=((10000:Nat):Int)from rfl,←Int.natCast_pow,Int.toNat_natCast,Nat.pow_mul]
theorem sizeNat_rep{a:List Int}{n:Int}(ha:Rep D a n)(hl:a.length≤17000000000000) :
 EvS (fun k=>linkworkref01_sizeNat.f k a) (fun r=>r=((dec n.toNat).length:Int)):=by
 by_cases h0:a= []
 · subst h0;obtain rfl:n=0:=by have:=ha.2.2;simp [val]at this;omega
   refine EvS.done (r:=1) (fun k=>by simp [linkworkref01_sizeNat.f]) (by rw [show (0:Int).toNat=0 from rfl,dec_small (by decide)];rfl)
 · have hp:=List.length_pos_iff.2 h0;obtain⟨m,hm⟩:∃m,a.length=m+1:=⟨a.length-1,by omega⟩;have hb:=dg4 ha.1 m;have hy:at0 a m≠0:=by
    have:=ha.2.1;unfold Nm at this
    rw [List.getLast?_eq_getElem?,hm,show m+1-1=m by omega,List.getElem?_eq_getElem (by omega),←at0_lt]at this;intro h;rw [h]at this;exact this rfl
   have hv:=val_take_succ D a m;rw [List.take_of_length_le (by omega),ha.2.2]at hv;have t0:=val_nonneg (by decide:(0:Int)<D) (ha.1.take m);have t1:=val_lt (by decide:(0:Int)<D) (ha.1.take m);rw [List.length_take,Nat.min_eq_left (by omega)]at t1
   refine ((sizeNat_l0 4 (4 * (m : Int)) (at0 a m) hb.1 (by have : (10 : Int) ^ 4 = 10000 := by decide
                                                            omega) (by decide) (by omega) (by omega)).mono ?_).congr (fun k=>?_)
   · rintro r rfl;rw [if_neg hy];obtain⟨j,e1,e2,e3⟩:=dec_len_ex (at0 a m).toNat (by omega);obtain⟨P,hP⟩:∃P,P=D^m:=⟨_,rfl⟩;have hPn:P.toNat=10^(4*m):=by rw [hP];exact toNat_pow m
     have hP0:0<P:=hP▸pow_pos' (by decide:(0:Int)<D) m;rw [←hP]at hv t1;obtain⟨y,hyn⟩:∃y:Nat,at0 a m=(y:Int):=⟨(at0 a m).toNat,by omega⟩;obtain⟨Q,hQ⟩:∃Q:Nat,P=(Q:Int):=⟨P.toNat,by omega⟩;obtain⟨tt,ht⟩:∃t:Nat,val D (a.take m)=(t:Int):=⟨(val D (a.take m)).toNat,by omega⟩;rw [hyn]at e1 e2 e3 ⊢;rw [hQ,Int.toNat_natCast]at hPn;rw [ht,hQ,hyn]at hv;rw [ht,hQ]at t1;rw [Int.toNat_natCast]at e1 e2 e3 ⊢
     have hvn : n.toNat = tt + Q * y := by have : n = ((tt + Q * y : Nat) : Int) := by rw [hv]; simp
                                           omega
     rw [e1];have g1:Q*10^j≤Q*y:=Nat.mul_le_mul_left _ e2;have g2:Q*(y+1)≤Q*10^(j+1):=Nat.mul_le_mul_left _ e3;rw [Nat.mul_succ]at g2;rw [hPn,←Nat.pow_add]at g1 g2;have:=dec_len_of (k:=4*m+j) (n:=n.toNat) (by rw [hvn,hPn];omega) (by rw [hvn,hPn,show 4*m+j+1=4*m+(j+1) by omega];omega);rw [this];omega
   · simp only [linkworkref01_sizeNat.f];have e:wrap64 ((a.length:Int)-1)=(m:Int):=by rw [w64 (by omega) (by omega)];omega
     rw [e,if_neg (by omega),if_pos (by omega),if_pos (by omega),rd_nat,w64 (by omega) (by omega)]
theorem pad_cons:∀(k n:Nat),pad (k+1) n=dig (n/10^k) :: pad k n
 | 0,n=>by simp [pad]
 | k+1,n=>by
  have h:=pad_cons k (n/10);rw [show pad (k+1+1) n=pad (k+1) (n/10)++ [dig n]from rfl,h,Nat.div_div_eq_div_mul,Nat.pow_succ,Nat.mul_comm];rfl
theorem pad_dec(n:Nat):pad (dec n).length n=dec n:=by
 induction n using dec.induct with
 | case1 n h=>rw [dec_small h];simp [pad]
 | case2 n h ih =>
  rw [dec_big (by omega)];simp only [List.length_append,List.length_cons,List.length_nil,pad];rw [ih]
theorem set_rep(m:Nat)(v:Int)(t:List Int):(List.replicate (m+1) 48++t).set m v=List.replicate m 48++v :: t:=by
 rw [List.replicate_succ',List.append_assoc,List.set_append_right _ _ (by simp)]
 simp
def ints(l:List UInt8):List Int:=l.map fun c=>(c.toNat:Int)
theorem str_ints(l:List UInt8):strOfNums (ints l)=⟨l.toArray⟩:=by
 unfold strOfNums ints
 rw [List.map_map]
 have:l.map ((fun n:Int=>UInt8.ofNat n.toNat)∘fun c:UInt8=>(c.toNat:Int))=l:=by
  conv=>rhs;rw [←List.map_id l]
  refine List.map_congr_left (fun c _=>?_);show UInt8.ofNat (((c.toNat:Nat):Int)).toNat=c
  rw [Int.toNat_natCast];exact UInt8.ofNat_toNat
 rw [this]
def txt(N w n:Nat):List Int:=List.replicate (N-w) 48++ints (pad w n)
theorem txt_len{N w n:Nat}(h:w≤N):(txt N w n).length=N:=by simp [txt,ints,pad_len];omega
theorem txt_set{N w n:Nat}(h:w<N)(v:Int)(hv:v=48+((n/10^w%10:Nat):Int)):(txt N w n).set (N-1-w) v=txt N (w+1) n:=by
 unfold txt
 rw [show N-w=(N-1-w)+1 by omega,set_rep,show N-(w+1)=N-1-w by omega,pad_cons]
 have:ints (dig (n/10^w) :: pad w n)=v :: ints (pad w n):=by
  simp only [ints,List.map_cons,dig_toNat];rw [hv];rfl
 rw [this]
theorem textNat_step{a x:List Int}{i N w q:Nat}{x7 j:Int}(g1:j<4)(g2:((N:Int)-1-w)≥0)(g3:(0:Int)≤(N:Int)-1-w)(g4:(N:Int)-1-w<(x.length:Int))(e0:((N:Int)-1-w).toNat=N-1-w)
 (e1:wrap64 (48+Int.tmod x7 10)%256=48+x7%10) (e2:wrap64 ((N:Int)-1-w-1)=(N:Int)-1-((w+1:Nat):Int)) (e3:wrap64 (Int.tdiv x7 10)=x7/10) (e4:wrap64 (j+1)=j+1) (k:Nat) :
 linkworkref01_textNat.l2 (k+1) a x ((N:Int)-1-w) (i:Int) x7 j=linkworkref01_textNat.l2 k a (x.set (N-1-w) (48+x7%10)) ((N:Int)-1-((w+1:Nat):Int)) (i:Int) (x7/10) (j+1):=by
 simp only [linkworkref01_textNat.l2,e0,e1,e2,e3,e4]
 rw [if_pos g1,if_pos g2,if_pos g3,if_pos g4]
theorem t10{x7:Int}(h0:0≤x7)(h1:x7<10000):wrap64 (48+Int.tmod x7 10)%256=48+x7%10∧wrap64 (Int.tdiv x7 10)=x7/10:=by
 rw [Int.tdiv_eq_ediv_of_nonneg h0,Int.tmod_eq_emod_of_nonneg h0]
 refine⟨?_,w64 (by omega) (by omega)⟩
 rw [w64 (by omega) (by omega)]
 omega
theorem mod_step{q:Nat}(r:Nat):(q%10^(r+1))%10=q%10∧q%10^(r+1)/10=q/10%10^r:=by
 rw [Nat.pow_succ']
 exact⟨Nat.mod_mul_right_mod ..,Nat.mod_mul_right_div_self ..⟩
theorem textNat_l2{S:ByteArray→Prop}{a:List Int}(N n i:Nat)(hN:N≤100000000000000)(hi:i≤17000000000000)
 (next:∀w,w=min N (4*(i+1))→EvS (fun k=>linkworkref01_textNat.l1 k a (txt N w n) ((N:Int)-1-w) ((i+1:Nat):Int)) S) :
 ∀(r w:Nat),r≤4→(w=min N (4*i+(4-r)))→(w<N→w=4*i+(4-r))→∀x7:Int,0≤x7→x7<10000→(w<N→x7=((n/10^w%10^r:Nat):Int)) →
  EvS (fun k=>linkworkref01_textNat.l2 k a (txt N w n) ((N:Int)-1-w) (i:Int) x7 (4-(r:Int))) S:=by
 have wi:wrap64 ((i:Int)+1)=((i+1:Nat):Int):=w_succ hi
 intro r
 induction r with
 | zero =>
  intro w hr hw hw2 x7 h0 h1 hx;refine EvS.step (next w (by rw [hw];congr 1)) (fun k=>?_);simp only [linkworkref01_textNat.l2];rw [if_neg (by omega),wi]
 | succ r ih =>
  intro w hr hw hw2 x7 h0 h1 hx;by_cases hwN:w<N
  · have hx7:=hx hwN;obtain⟨m1,m2⟩:=mod_step (q:=n/10^w) r;have hv:x7%10=((n/10^w%10:Nat):Int):=by rw [hx7,←m1];rfl
    have hq:x7/10=((n/10^w/10%10^r:Nat):Int):=by rw [hx7,←m2];rfl
    have ih':=ih (w+1) (by omega) (by have:=hw2 hwN;omega) (by intro h;have:=hw2 hwN;omega) (x7/10) (by omega) (by omega) (by
     intro _
     rw [hq,Nat.pow_succ,Nat.div_div_eq_div_mul])
    rw [←txt_set hwN (48+x7%10) (by rw [hv])]at ih';refine EvS.step ih' (fun k=>?_);have:=textNat_step (a:=a) (x:=txt N w n) (i:=i) (N:=N) (w:=w) (q:=0) (x7:=x7) (j:=4-((r+1:Nat):Int)) (by omega) (by omega) (by omega) (by rw [txt_len (by omega)];omega) (by omega) (t10 h0 h1).1 (by rw [w64 (by omega) (by omega)];omega) (t10 h0 h1).2 (w64 (by omega) (by omega)) k;rw [this];congr 1
    omega
  · refine EvS.step (next w (by rw [hw]at hwN ⊢;omega)) (fun k=>?_);simp only [linkworkref01_textNat.l2];rw [if_pos (by omega),if_neg (by omega),wi]
theorem val_div(a:List Int)(ha:Dg D a)(i:Nat):at0 a i=(((val D a).toNat/10^(4*i)%10^4:Nat):Int):=by
 have h4:(10:Nat)^4=10000:=by decide
 rw [h4]
 by_cases hi:i≤a.length
 · have h1:=val_take_drop D a i hi;have t0:=val_nonneg (by decide:(0:Int)<D) (ha.take i);have t1:=val_lt (by decide:(0:Int)<D) (ha.take i);have d0:=val_nonneg (by decide:(0:Int)<D) (ha.drop i);have d1:=val_nonneg (by decide:(0:Int)<D) (ha.drop (i+1));have hb:=dg4 ha i;rw [List.length_take,Nat.min_eq_left hi]at t1;have hdv:=drop_val a i;obtain⟨P,hP⟩:∃P,P=D^i:=⟨_,rfl⟩;have hPn:P.toNat=10^(4*i):=by rw [hP];exact toNat_pow i
   have hP0:0<P:=hP▸pow_pos' (by decide:(0:Int)<D) i;rw [←hP]at h1 t1;rw [←hPn];obtain⟨tt,ht⟩:∃t:Nat,val D (a.take i)=(t:Int):=⟨(val D (a.take i)).toNat,by omega⟩;obtain⟨dd,hd⟩:∃t:Nat,val D (a.drop i)=(t:Int):=⟨(val D (a.drop i)).toNat,by omega⟩;obtain⟨Q,hQ⟩:∃Q:Nat,P=(Q:Int):=⟨P.toNat,by omega⟩;rw [ht,hd,hQ]at h1;rw [ht,hQ]at t1;rw [hd]at hdv
   have e : (val D a).toNat = tt + Q * dd := by have : val D a = ((tt + Q * dd : Nat) : Int) := by rw [h1]; simp
                                                omega
   rw [e,hQ,Int.toNat_natCast,Nat.add_mul_div_left _ _ (by omega),Nat.div_eq_of_lt (by omega)];have hdv2:(dd:Int)=at0 a i+10000*val D (a.drop (i+1)):=hdv;generalize val D (a.drop (i+1))=z at *
   omega
 · rw [at0_ge (by omega)];have h1:=val_lt (by decide:(0:Int)<D) ha;have h0:=val_nonneg (by decide:(0:Int)<D) ha;have h2:D^a.length≤D^i:=pow_mono (by decide) (by omega);have h3:=toNat_pow i;have h5:(D^i).toNat=10^(4*i):=h3;rw [←h5,Nat.div_eq_of_lt (by omega)];rfl
theorem textNat_l1{a:List Int}(ha:Dg D a)(hl:a.length≤17000000000000)(n N:Nat)(hn:n=(val D a).toNat)(hN:N=(dec n).length)(hN2:N≤100000000000000)(hNl:N≤4*a.length∨(n=0∧N=1)):∀(d i:Nat),i+d=a.length→∀w,w=min N (4*i) →
 EvS (fun k=>linkworkref01_textNat.l1 k a (txt N w n) ((N:Int)-1-w) (i:Int)) (fun r=>r=⟨(dec n).toArray⟩)
 | 0,i,hd,w,hw=>by
  refine EvS.done (r:=strOfNums (txt N w n)) (fun k=>by simp only [linkworkref01_textNat.l1];rw [if_neg (by omega)]) ?_;have:txt N w n=ints (dec n):=by
   rcases hNl with h|⟨h1,h2⟩
   · rw [show w=N by omega];unfold txt
     rw [Nat.sub_self,hN,pad_dec];rfl
   · subst h1 h2;rcases(by omega:w=0∨w=1)with e|e
     · subst e;rw [dec_zero];rfl
     · subst e;rw [dec_zero];rfl
  rw [this,str_ints]
 | d+1,i,hd,w,hw=>by
  have hb:=dg4 ha i
  refine EvS.step (textNat_l2 N n i hN2 (by omega) (fun w' hw'=>textNat_l1 ha hl n N hn hN hN2 hNl d (i+1) (by omega) w' hw') 4 w (Nat.le_refl _) (by rw [hw];congr 1) (by intro h;omega) (at0 a i) hb.1 (by omega) (by
   intro h;rw [show w=4*i by omega,hn]
   exact val_div a ha i)) (fun k=>?_)
  simp only [linkworkref01_textNat.l1,rd_nat];rw [if_pos (by omega),if_pos (by omega)];rfl
theorem textNat_l0{a:List Int}{S:ByteArray→Prop}(N:Nat)(hN:N≤100000000000000)(next:EvS (fun k=>linkworkref01_textNat.l1 k a (List.replicate N 48) ((N:Int)-1) 0) S):∀(d i:Nat),i+d=N→∀x:List Int,x.length=N→(∀j,j<i→x[j]?=some 48) →
 EvS (fun k=>linkworkref01_textNat.l0 k a x (i:Int)) S
 | 0,i,hd,x,hx,hj=>by
  have:x=List.replicate N 48:=by
   refine List.ext_getElem? (fun j=>?_);by_cases h:j<N
   · rw [hj j (by omega),List.getElem?_replicate,if_pos h]
   · rw [List.getElem?_eq_none (by omega),List.getElem?_eq_none (by simp;omega)]
  refine EvS.step next (fun k=>?_);simp only [linkworkref01_textNat.l0];rw [if_neg (by omega),hx,w64 (by omega) (by omega),this]
 | d+1,i,hd,x,hx,hj=>by
  refine EvS.step (textNat_l0 N hN next d (i+1) (by omega) (x.set i 48) (by simpa using hx) (fun j h=>?_)) (fun k=>?_)
  · by_cases e:j=i
    · subst e;rw [List.getElem?_set_self (by omega)]
    · rw [List.getElem?_set_ne (by omega)];exact hj j (by omega)
  · simp only [linkworkref01_textNat.l0];rw [if_pos (by omega),if_pos (by omega),(show wrap64 ((i:Int)+1)=((i+1:Nat):Int) by rw [w64 (by omega) (by omega)];omega),Int.toNat_natCast]
theorem textNat_rep{a:List Int}{n:Int}(ha:Rep D a n)(hl:a.length≤17000000000000) :
 EvS (fun k=>linkworkref01_textNat.f k a) (fun r=>r=⟨(dec n.toNat).toArray⟩):=by
 have hn0:=ha.nonneg (by decide)
 obtain⟨N,hN⟩:∃N,N=(dec n.toNat).length:=⟨_,rfl⟩
 have hNl:N≤4*a.length∨(n.toNat=0∧N=1):=by
  by_cases h:n.toNat=0
  · exact .inr ⟨h,by rw [hN,h,dec_zero];rfl⟩
  · left
    obtain⟨k,e1,e2,e3⟩:=dec_len_ex n.toNat (by omega);have h1:=val_lt (by decide:(0:Int)<D) ha.1;rw [ha.2.2]at h1;have h2:=toNat_pow a.length;have h3:(D^a.length).toNat=10^(4*a.length):=h2;have h4:10^k<10^(4*a.length):=by omega
    have h5:=(Nat.pow_lt_pow_iff_right (by decide:1<10)).1 h4;omega
 have hN2:N≤100000000000000:=by omega
 refine(EvS.bind (sizeNat_rep ha hl) (f:=fun k t=>(if 0≤t then(if (t:Int).toNat≤281474976710656 then(linkworkref01_textNat.l0 k a (List.replicate (t:Int).toNat 0) 0)else (none))else (none))) (fun r hr=>?_)).congr (fun k=>rfl)
 rw [←hN]at hr
 subst hr
 refine(textNat_l0 (a:=a) N hN2 ?_ N 0 (Nat.zero_add _) (List.replicate N 0) (by simp) (fun j h=>absurd h (by omega))).congr (fun k=>by rw [if_pos (by omega),if_pos (by omega),Int.toNat_natCast];rfl)
 have:=textNat_l1 ha.1 hl n.toNat N (by rw [ha.2.2]) hN hN2 hNl a.length 0 (Nat.zero_add _) 0 (by omega)
 refine this.congr (fun k=>?_)
 unfold txt
 simp [ints,pad]
theorem bt_list(s:ByteArray)(i:Nat)(h:i<s.data.toList.length):bt s (i:Int)=((s.data.toList[i]).toNat:Int):=by
 unfold bt
 rw [dif_pos (by simpa using h)]
 rfl
theorem digits_l0(s:ByteArray)(hs:s.size≤300):∀(d i:Nat),i+d=s.size→EvS (fun k=>linkworkref01_digits.l0 k s (i:Int)) (fun r=>r=true↔Digs (s.data.toList.drop i))
 | 0,i,hd=>by
  have:s.data.toList.length=s.size:=by rw [Array.length_toList];rfl
  refine EvS.done (r:=true) (fun k=>by simp only [linkworkref01_digits.l0];rw [if_neg (by omega)]) ?_;rw [List.drop_of_length_le (by omega)];simp [Digs.nil]
 | d+1,i,hd=>by
  have hl:s.data.toList.length=s.size:=by rw [Array.length_toList];rfl
  have hb:=bt_list s i (by omega);have hdr:s.data.toList.drop i=s.data.toList[i]'(by omega) :: s.data.toList.drop (i+1):=List.drop_eq_getElem_cons (by omega);generalize s.data.toList[i]'(by omega)=c at *
  by_cases h1:c.toNat<48
  · refine EvS.done (r:=false) (fun k=>?_) ?_
    · simp only [linkworkref01_digits.l0,hb];rw [if_pos (by omega),if_pos (by omega),if_pos (by omega)]
    · rw [hdr];simp only [Bool.false_eq_true,false_iff];intro h;have:=h c List.mem_cons_self;omega
  · by_cases h2:57<c.toNat
    · refine EvS.done (r:=false) (fun k=>?_) ?_
      · simp only [linkworkref01_digits.l0,hb];rw [if_pos (by omega),if_pos (by omega),if_neg (by omega),if_pos (by omega)]
      · rw [hdr];simp only [Bool.false_eq_true,false_iff];intro h;have:=h c List.mem_cons_self;omega
    · refine EvS.step ((digits_l0 s hs d (i+1) (by omega)).mono ?_) (fun k=>?_)
      · intro r hr;rw [hr,hdr];constructor
        · intro h x hx;rcases List.mem_cons.1 hx with rfl|hx
          · omega
          · exact h x hx
        · exact fun h x hx=>h x (List.mem_cons_of_mem _ hx)
      · simp only [linkworkref01_digits.l0,hb];rw [if_pos (by omega),if_pos (by omega),if_neg (by omega),if_neg (by omega),w_succ (by omega)]
def Good(l:List UInt8):Prop:=Digs l∧Lead l∧l.length≤300
theorem digits_rep(s:ByteArray)(hs:s.size≤140737488351232):EvS (fun k=>linkworkref01_digits.f k s) (fun r=>r=true↔Good s.data.toList):=by
 have hl:s.data.toList.length=s.size:=by rw [Array.length_toList];rfl
 have jf:∀b:Bool,(b=true→¬Good s.data.toList)→(b=false→s.size≤300∧Lead s.data.toList)→EvS (fun k=>linkworkref01_digits.j0 k s b) (fun r=>r=true↔Good s.data.toList):=by
  intro b h1 h2;cases b with
  | true=>exact EvS.done (r:=false) (fun k=>by simp [linkworkref01_digits.j0]) (by simpa using h1 rfl)
  | false =>
   obtain⟨h3,h4⟩:=h2 rfl;refine EvS.step ((digits_l0 s h3 s.size 0 (Nat.zero_add _)).mono ?_) (fun k=>by simp [linkworkref01_digits.j0]);intro r hr;rw [hr];exact⟨fun h=>⟨h,h4,by omega⟩,fun h=>h.1⟩
 by_cases h0:s.size=0
 · refine(jf true (fun _ h=>h.2.1.1 (List.length_eq_zero_iff.1 (by omega))) (fun h=>by cases h)).congr (fun k=>?_);simp only [linkworkref01_digits.f];rw [if_pos (by omega)]
 · by_cases h1:300<s.size
   · refine(jf true (fun _ h=>by have:=h.2.2;omega) (fun h=>by cases h)).congr (fun k=>?_);simp only [linkworkref01_digits.f];rw [if_neg (by omega),if_pos (by omega)]
   · have hb:=bt_list s 0 (by omega);have hne:s.data.toList≠ []:=fun e=>by rw [e]at hl;simp at hl;omega
     have hh:s.data.toList.head?=some (s.data.toList[0]'(by omega)):=by rw [List.head?_eq_getElem?,List.getElem?_eq_getElem]
     generalize s.data.toList[0]'(by omega)=c at *
     by_cases h2:1<s.size
     · refine(jf (bt s 0==48) (fun h hg=>?_) (fun h=>⟨by omega,hne,fun h48=>?_⟩)).congr (fun k=>?_)
       · have hc:c.toNat=48:=by
          have h3:bt s ((0:Nat):Int)=48:=by simpa using h
          omega
         have:=hg.2.1.2 (by rw [hh];congr 1;exact u8_eq hc);rw [this]at hl;simp at hl;omega
       · exfalso
         rw [hh,Option.some.injEq]at h48;have h3:¬bt s ((0:Nat):Int)=48:=by simpa using h
         apply h3;rw [hb,h48];rfl
       · simp only [linkworkref01_digits.f];rw [if_neg (by omega),if_neg (by omega),if_pos (by omega),if_pos (by omega)]
     · refine(jf false (fun h=>by cases h) (fun _=>⟨by omega,hne,fun h48=>?_⟩)).congr (fun k=>?_)
       · obtain⟨x,hx⟩:=List.length_eq_one_iff.1 (show s.data.toList.length=1 by omega);rw [hx]at h48 ⊢;simpa using h48
       · simp only [linkworkref01_digits.f];rw [if_neg (by omega),if_neg (by omega),if_neg (by omega)]
theorem readNat_l1{S:List Int→Prop}(s:ByteArray)(hs:s.size≤140737488351232)(hd:Digs s.data.toList)(out:List Int)(hout:out.length≤17000000000000)(e b:Nat)(he:e≤s.size)(heb:e≤b+4)
 (next:EvS (fun k=>linkworkref01_readNat.l0 k s (out++ [(dval ((s.data.toList.take e).drop b):Int)]) ((e:Int)-4)) S) :
 ∀(d i:Nat),i+d=e→b≤i→EvS (fun k=>linkworkref01_readNat.l1 k s out (e:Int) (dval ((s.data.toList.take i).drop b):Int) (i:Int)) S
 | 0,i,hi,hbi=>by
  obtain rfl:i=e:=by omega
  refine EvS.step next (fun k=>?_);simp only [linkworkref01_readNat.l1];rw [if_neg (by omega),if_pos (by omega),w64 (by omega) (by omega)]
 | d+1,i,hi,hbi=>by
  have hl:s.data.toList.length=s.size:=by rw [Array.length_toList];rfl
  have hb:=bt_list s i (by omega);have hc:=hd (s.data.toList[i]'(by omega)) (List.getElem_mem _);have htk:(s.data.toList.take (i+1)).drop b=(s.data.toList.take i).drop b++ [s.data.toList[i]'(by omega)]:=by
   rw [List.take_succ_eq_append_getElem (by omega),List.drop_append_of_le_length (by rw [List.length_take];omega)]
  have ih:=readNat_l1 s hs hd out hout e b he heb next d (i+1) (by omega) (by omega);have hv:dval ((s.data.toList.take i).drop b)<10^4:=by
   refine Nat.lt_of_lt_of_le (dval_lt (fun c h=>hd c (List.mem_of_mem_take (List.mem_of_mem_drop h)))) (Nat.pow_le_pow_right (by decide) ?_);rw [List.length_drop,List.length_take];omega
  rw [htk,dval_snoc]at ih;generalize s.data.toList[i]'(by omega)=c at *
  generalize dval ((s.data.toList.take i).drop b)=v at *
  have h4:(10:Nat)^4=10000:=by decide
  refine EvS.step ih (fun k=>?_);simp only [linkworkref01_readNat.l1,hb];rw [if_pos (by omega),if_pos (by omega),if_pos (by omega),w64 (x:=10*(v:Int)) (by omega) (by omega),(show wrap64 ((i:Int)+1)=((i+1:Nat):Int) by rw [w64 (by omega) (by omega)];omega),show ((c.toNat:Int)-48)%256=(c.toNat:Int)-48 by omega,w64 (by omega) (by omega)];congr 1
  omega
theorem readNat_end(s:ByteArray)(out:List Int)(hout:out.length≤17000000000000)(hd:Dg D out)(x:Int)(hx:x≤0):EvS (fun k=>linkworkref01_readNat.l0 k s out x) (fun r=>Rep D r (val D out)):=by
 refine EvS.step (trim_some (l:=out) (n:=val D out) hout hd rfl) (fun k=>?_)
 simp only [linkworkref01_readNat.l0];rw [if_neg (by omega)]
theorem readNat_l0(s:ByteArray)(hs:s.size≤60000000000000)(hd:Digs s.data.toList):∀(m e:Nat),e≤m→e≤s.size→∀out:List Int,4*out.length+e≤s.size+4→Dg D out →
 EvS (fun k=>linkworkref01_readNat.l0 k s out (e:Int)) (fun r=>Rep D r (val D out+D^out.length*(dval (s.data.toList.take e):Int)))
 | m,0,hm,he,out,hlo,ho=>by
  have:=readNat_end s out (by omega) ho ((0:Nat):Int) (by omega);refine this.mono (fun r hr=>?_);simpa [dval]using hr
 | m+1,e+1,hm,he,out,hlo,ho=>by
  have hl:s.data.toList.length=s.size:=by rw [Array.length_toList];rfl
  obtain⟨b,hb⟩:∃b,b=e+1-4:=⟨_,rfl⟩;obtain⟨ch,hch⟩:∃ch,ch=(s.data.toList.take (e+1)).drop b:=⟨_,rfl⟩;have hsplit:s.data.toList.take (e+1)=s.data.toList.take b++ch:=by
   rw [hch];conv=>lhs;rw [←List.take_append_drop b (s.data.toList.take (e+1)),List.take_take,Nat.min_eq_left (by omega)]
  have hdc:Digs ch:=fun c h=>by rw [hch]at h;exact hd c (List.mem_of_mem_take (List.mem_of_mem_drop h))
  have hcl:ch.length=e+1-b:=by rw [hch,List.length_drop,List.length_take];omega
  have hcv:=dval_lt hdc
  have hcv2 : dval ch < 10000 := Nat.lt_of_lt_of_le hcv (by have : (10 : Nat) ^ ch.length ≤ 10 ^ 4 := Nat.pow_le_pow_right (by decide) (by omega)
                                                            simpa using this)
  have ho2:Dg D (out++ [(dval ch:Int)]):=by
   rw [Dg_append];exact⟨ho,by intro x hx;simp at hx;subst hx;exact⟨by omega,by show _<(10000:Int);omega⟩⟩
  have hnext:EvS (fun k=>linkworkref01_readNat.l0 k s (out++ [(dval ch:Int)]) (((e+1:Nat):Int)-4)) (fun r=>Rep D r (val D out+D^out.length*(dval (s.data.toList.take (e+1)):Int))):=by
   rw [hsplit,dval_append];by_cases h4:4≤e+1
   · have:=readNat_l0 s hs hd m b (by omega) (by omega) (out++ [(dval ch:Int)]) (by simp;omega) ho2;rw [show (((e+1:Nat):Int)-4)=(b:Int) by omega];refine this.mono (fun r hr=>?_);rw [val_snoc,List.length_append,List.length_singleton,Int.pow_succ]at hr;rw [hcl,show e+1-b=4 by omega];have:val D out+D^out.length*(dval ch:Int)+D^out.length*D*(dval (s.data.toList.take b):Int)=val D out+D^out.length*((dval (s.data.toList.take b)*10^4+dval ch:Nat):Int):=by
      rw [Int.natCast_add,Int.natCast_mul];generalize D^out.length=P at *
      generalize (dval (s.data.toList.take b):Int)=x at *
      generalize (dval ch:Int)=y at *
      show val D out+P*y+P*10000*x=val D out+P*(x*10000+y)
      grind
     rw [this]at hr;exact hr
   · have hb0:b=0:=by omega
     have:=readNat_end s (out++ [(dval ch:Int)]) (by simp;omega) ho2 (((e+1:Nat):Int)-4) (by omega);refine this.mono (fun r hr=>?_);rw [val_snoc]at hr;rw [hb0];simpa [dval]using hr
  rw [hch]at hnext;have h1:=readNat_l1 s (by omega) hd out (by omega) (e+1) b (by omega) (by omega) hnext (e+1-b) b (by omega) (Nat.le_refl _);refine EvS.step h1 (fun k=>?_);simp only [linkworkref01_readNat.l0];rw [if_pos (by omega),w64 (by omega) (by omega)];have e1:mx 0 (((e+1:Nat):Int)-4)=(b:Int):=by unfold mx;split <;> omega
  have e2:(s.data.toList.take b).drop b= []:=List.drop_of_length_le (by rw [List.length_take];omega);rw [e1,e2];rfl
theorem readNat_rep(s:ByteArray)(hs:s.size≤60000000000000)(hd:Digs s.data.toList):EvS (fun k=>linkworkref01_readNat.f k s) (fun r=>Rep D r (dval s.data.toList:Int)):=by
 have hl:s.data.toList.length=s.size:=by rw [Array.length_toList];rfl
 have:=readNat_l0 s hs hd s.size s.size (Nat.le_refl _) (Nat.le_refl _) [] (by simp) (Dg.nil _)
 rw [List.take_of_length_le (by omega)]at this
 refine(this.mono (fun r hr=>?_)).congr (fun k=>rfl)
 simpa [val]using hr
end Go.Proofs.YtpdghgfbfmaplaaGreatDoor.Rf
end
section
set_option linter.unusedVariables false
namespace Go.Proofs.YtpdghgfbfmaplaaGreatDoor.Rf
open Go.RowKit Go.Proofs.YtpdghgfbfmaplaaGreatDoorW.PrintWords Go.Proofs.YtpdghgfbfmaplaaGreatDoor.Num Go.Proofs.YtpdghgfbfmaplaaGreatDoor.PRef Go.Proofs.YtpdghgfbfmaplaaGreatDoor.WhC Go.Proofs.YtpdghgfbfmaplaaGreatDoor.Dec Go.Proofs.YtpdghgfbfmaplaaGreatDoor.Wh
def Sd(P:Nat→Prop)(w:World)(v:Value)(l:List Int):Prop:=Kd.V (Kd.int .i64) 3 w 0 P v l
def IsD(P:Nat→Prop)(K:Nat)(w:World)(A:Option Addr)(n c:Nat)(z:Int):Prop :=
 ∃l:List Int,l.length=n∧Sd P w (.slice A n c) l∧Rep D l z∧z.natAbs<10000^K
section
variable {P P':Nat→Prop} {K K' s m:Nat} {w w1:World} {A:Option Addr} {n c:Nat} {z:Int} {v:Value} {l:List Int}
theorem Sd.below(h:Sd P w v l)(hb:Below w.heap.size w w1):Sd P w1 v l:=Kd.V_below h hb
theorem Sd.mono(h:Sd P w v l)(hP:∀k,P k→P' k):Sd P' w v l:=Kd.V_mono h hP
theorem Sd.step(h:Sd P w v l)(hm:∀k,P k→k<w.heap.size→w1.heap[k]?=w.heap[k]?):Sd P w1 v l:=Kd.V_step h hm
theorem Sd.bound(h:Sd P w v l):Sd (fun k=>P k∧k<w.heap.size) w v l:=Kd.V_bound h
theorem Sd.own{base e:Nat}{ok:Nat→Prop}(h:Kd.R (Kd.int .i64) 3 w base ok v l)(hP:∀k,base≤k→P k):Sd P w v l:=Kd.V_mono (Kd.R_V (Kd.R_bound h)) (fun k hk=>hP k hk.2.1)
theorem IsD.step(h:IsD P K w A n c z)(hm:∀k,P k→k<w.heap.size→w1.heap[k]?=w.heap[k]?):IsD P K w1 A n c z:=by
 obtain⟨l,h1,h2,h3,h4⟩:=h;exact⟨l,h1,h2.step hm,h3,h4⟩
theorem IsD.below(h:IsD P K w A n c z)(hb:Below w.heap.size w w1):IsD P K w1 A n c z:=by
 obtain⟨l,h1,h2,h3,h4⟩:=h;exact⟨l,h1,h2.below hb,h3,h4⟩
theorem IsD.mono(h:IsD P K w A n c z)(hP:∀k,P k→P' k):IsD P' K w A n c z:=by
 obtain⟨l,h1,h2,h3,h4⟩:=h;exact⟨l,h1,h2.mono hP,h3,h4⟩
theorem IsD.tight(h:IsD P K w A n c z)(hK:z.natAbs<10000^K'):IsD P K' w A n c z:=by
 obtain⟨l,h1,h2,h3,h4⟩:=h;exact⟨l,h1,h2,h3,hK⟩
theorem IsD.bd(h:IsD P K w A n c z):z.natAbs<10000^K:=by obtain⟨l,h1,h2,h3,h4⟩:=h;exact h4
theorem pow4(hK:K≤K'):10000^K≤10000^K':=Nat.pow_le_pow_right (by decide) hK
theorem IsD.wide(h:IsD P K w A n c z)(hK:K≤K'):IsD P K' w A n c z:=h.tight (Nat.lt_of_lt_of_le h.bd (pow4 hK))
theorem IsD.nonneg(h:IsD P K w A n c z):0≤z:=by obtain⟨l,h1,h2,h3,h4⟩:=h;exact h3.nonneg (by decide)
theorem IsD.bound(h:IsD P K w A n c z):IsD (fun k=>P k∧k<w.heap.size) K w A n c z:=by
 obtain⟨l,h1,h2,h3,h4⟩:=h;exact⟨l,h1,h2.bound,h3,h4⟩
theorem IsD.gap(h:IsD P K w A n c z)(m:Nat):IsD (Gp P w.heap.size m) K w A n c z:=h.bound.mono (fun k hk=>⟨hk.1,.inl hk.2⟩)
theorem IsD.ungap(h:IsD (Gp P s m) K w A n c z):IsD P K w A n c z:=h.mono (fun k hk=>hk.1)
theorem IsD.alc(h:IsD P K w A n c z){o:Obj}:IsD P K (w.alloc o) A n c z:=h.below ((Below.refl _ _).alloc (Nat.le_refl _) _)
theorem IsD.drw(h:IsD P K w A n c z):IsD P K w.drew A n c z:=h.below (Below.refl _ _).drew
theorem IsD.put(h:IsD (Gp P s m) K w A n c z){p:Addr}(u:Value)(h1:s≤p.block)(h2:p.block<s+m):IsD (Gp P s m) K (w.setCell p u) A n c z :=
 h.step (fun k hk _=>by
  have h3:=hk.2
  exact Below.heap_setCell w p u k (by omega))
end
theorem repD_len{l:List Int}{z:Int}{K:Nat}(h:Rep D l z)(hK:z.natAbs<10000^K):l.length≤K:=by
 by_cases hl:l= []
 · subst hl;simp
 · have h1:=val_ge_of_Nm (by decide:(0:Int)<D) h.1 h.2.1 hl;rw [h.2.2]at h1;rcases Nat.lt_or_ge K l.length with h4|h4
   · exfalso
     have h3:D^K≤D^(l.length-1):=pow_mono (by decide) (by omega);have h5:((z.natAbs:Int))<((10000^K:Nat):Int):=by exact_mod_cast hK
     rw [Int.natCast_pow]at h5;have h6:((10000:Nat):Int)^K=D^K:=rfl;have h0:=h.nonneg (by decide);omega
   · exact h4
theorem natAbs_lt_mul{a b:Int}{K K':Nat}(ha:a.natAbs<10000^K)(hb:b.natAbs<10000^K'):(a*b).natAbs<10000^(K+K'):=by
 rw [Int.natAbs_mul,Nat.pow_add];exact Nat.mul_lt_mul'' ha hb
section
variable {P:Nat→Prop} {K K':Nat} {w:World} {A A':Option Addr} {n n' c c':Nat} {z u:Int}
theorem d_natOf(a:Int)(h1:0≤a)(h2:a≤18446744073709551615)(hP:∀k,w.heap.size≤k→P k) :
 Calls Tryz.prog 66 #[.int .u64 a] w fun e w'=>∃(A:Option Addr) (n c:Nat),e=.returned (.slice A n c)∧IsD P 5 w' A n c a∧Below w.heap.size w w':=by
 obtain⟨k,r,hk,hr⟩:=(natOf_rep a h1 h2).get
 refine(linkworkref01_natOf.calls k a r w hk).mono ?_
 rintro e w' ⟨v,rfl,hv,hb⟩
 obtain⟨A,c,rfl⟩:=Kd.R_slice hv
 refine⟨A,r.length,c,rfl,⟨r,rfl,Sd.own (e:=3) hv hP,hr,?_⟩,hb⟩
 have:(10000:Nat)^5=100000000000000000000:=by decide
 omega
theorem d_cmpNat(hx:IsD P K w A n c z)(hy:IsD P K' w A' n' c' u)(hK:K≤17000000000000)(hK':K'≤17000000000000) :
 Calls Tryz.prog 96 #[.slice A n c,.slice A' n' c'] w fun e w'=>e=.returned (.int .i64 (z-u).sign)∧Below w.heap.size w w':=by
 obtain⟨l,rfl,h2,h3,h4⟩:=hx
 obtain⟨m,rfl,i2,i3,i4⟩:=hy
 obtain⟨k,r,hk,rfl⟩:=(cmpNat_rep h3 i3 (Nat.le_trans (repD_len h3 h4) hK) (Nat.le_trans (repD_len i3 i4) hK')).get
 obtain⟨_,hc,hr⟩:=Kd.V_reads' h2
 obtain⟨_,ic,ir⟩:=Kd.V_reads' i2
 refine(linkworkref01_cmpNat.calls k A c l A' c' m _ w hr hc ir ic hk).mono ?_
 rintro e w' ⟨rfl,nd,rfl⟩
 exact⟨rfl,pw_below_drewN (Below.refl _ _) nd⟩
theorem d_addNat(hx:IsD P K w A n c z)(hy:IsD P K w A' n' c' u)(hK:K≤16000000000000)(hP:∀k,w.heap.size≤k→P k) :
 Calls Tryz.prog 110 #[.slice A n c,.slice A' n' c'] w fun e w'=>∃(A:Option Addr) (n c:Nat),e=.returned (.slice A n c)∧IsD P (K+1) w' A n c (z+u)∧Below w.heap.size w w':=by
 obtain⟨l,rfl,h2,h3,h4⟩:=hx
 obtain⟨m,rfl,i2,i3,i4⟩:=hy
 obtain⟨k,r,hk,hr⟩:=(addNat_rep h3 i3 (Nat.le_trans (repD_len h3 h4) hK) (Nat.le_trans (repD_len i3 i4) hK)).get
 obtain⟨_,hc,hr0⟩:=Kd.V_reads' h2
 obtain⟨_,ic,ir⟩:=Kd.V_reads' i2
 refine(linkworkref01_addNat.calls k A c l A' c' m r w hr0 hc ir ic hk).mono ?_
 rintro e w' ⟨v,rfl,hv,hb⟩
 obtain⟨A,c,rfl⟩:=Kd.R_slice hv
 refine⟨A,r.length,c,rfl,⟨r,rfl,Sd.own (e:=3) hv hP,hr,?_⟩,hb⟩
 rw [Nat.pow_succ]
 omega
theorem d_subNat(hx:IsD P K w A n c z)(hy:IsD P K' w A' n' c' u)(hzu:u≤z)(hK:K≤16000000000000)(hP:∀k,w.heap.size≤k→P k) :
 Calls Tryz.prog 111 #[.slice A n c,.slice A' n' c'] w fun e w'=>∃(A:Option Addr) (n c:Nat),e=.returned (.slice A n c)∧IsD P K w' A n c (z-u)∧Below w.heap.size w w':=by
 have hu0:=hy.nonneg
 obtain⟨l,rfl,h2,h3,h4⟩:=hx
 obtain⟨m,rfl,i2,i3,i4⟩:=hy
 obtain⟨k,r,hk,hr⟩:=(subNat_rep h3 i3 (by have:=repD_len h3 h4;omega) hzu).get
 obtain⟨_,hc,hr0⟩:=Kd.V_reads' h2
 obtain⟨_,ic,ir⟩:=Kd.V_reads' i2
 refine(linkworkref01_subNat.calls k A c l A' c' m r w hr0 hc ir ic hk).mono ?_
 rintro e w' ⟨v,rfl,hv,hb⟩
 obtain⟨A,c,rfl⟩:=Kd.R_slice hv
 refine⟨A,r.length,c,rfl,⟨r,rfl,Sd.own (e:=3) hv hP,hr,?_⟩,hb⟩
 omega
theorem d_mulNat(hx:IsD P K w A n c z)(hy:IsD P K' w A' n' c' u)(hK:K≤400000000000)(hK':K'≤400000000000)(hP:∀k,w.heap.size≤k→P k) :
 Calls Tryz.prog 82 #[.slice A n c,.slice A' n' c'] w fun e w'=>∃(A:Option Addr) (n c:Nat),e=.returned (.slice A n c)∧IsD P (K+K') w' A n c (z*u)∧Below w.heap.size w w':=by
 obtain⟨l,rfl,h2,h3,h4⟩:=hx
 obtain⟨m,rfl,i2,i3,i4⟩:=hy
 obtain⟨k,r,hk,hr⟩:=(mulNat_rep h3 i3 (Nat.le_trans (repD_len h3 h4) hK) (Nat.le_trans (repD_len i3 i4) hK')).get
 obtain⟨_,hc,hr0⟩:=Kd.V_reads' h2
 obtain⟨_,ic,ir⟩:=Kd.V_reads' i2
 refine(linkworkref01_mulNat.calls k A c l A' c' m r w hr0 hc ir ic hk).mono ?_
 rintro e w' ⟨v,rfl,hv,hb⟩
 obtain⟨A,c,rfl⟩:=Kd.R_slice hv
 exact⟨A,r.length,c,rfl,⟨r,rfl,Sd.own (e:=3) hv hP,hr,natAbs_lt_mul h4 i4⟩,hb⟩
theorem d_mulDigit(hx:IsD P K w A n c z)(d:Int)(h0:0≤d)(h1:d≤9223372036854775807)(hK:K≤400000000000)(hP:∀k,w.heap.size≤k→P k) :
 Calls Tryz.prog 132 #[.slice A n c,.int .i64 d] w fun e w'=>∃(A:Option Addr) (n c:Nat),e=.returned (.slice A n c)∧IsD P (K+5) w' A n c (z*d)∧Below w.heap.size w w':=by
 have HX:=Lib.hid hx
 have HP:=Lib.hid hP
 have hw:IntKind.u64.wrap d=d:=wu64 h0 (by omega)
 clear hx hP
 go_enter Tryz.func132,Tryz.ntmps132
 go_wp2_with fail
 refine(d_natOf (P:=P) d h0 (by omega) HP.out).mono ?_
 rintro e w1 ⟨A1,n1,c1,rfl,hy,hb1⟩
 have HY:=Lib.hid hy
 clear hy
 go_wp2_with fail
 refine(d_mulNat (P:=P) (HX.out.below hb1) HY.out hK (by omega) (fun k hk=>HP.out k (Nat.le_trans hb1.size hk))).mono ?_
 rintro e w2 ⟨A2,n2,c2,rfl,hz,hb2⟩
 have HZ:=Lib.hid hz
 clear hz
 go_wp2_with fail
 go_ret
 exact⟨A2,n2,c2,rfl,HZ.out,hb1.trans (hb2.mono hb1.size)⟩
theorem d_top(hx:IsD P K w A n c z)(hK:K≤17000000000000)(from_:Nat)(hf:from_≤17000000000000)(hl:n≤from_+4) :
 Calls Tryz.prog 131 #[.slice A n c,.int .i64 (from_:Int)] w fun e w'=>e=.returned (.int .i64 (z/10000^from_))∧Below w.heap.size w w':=by
 obtain⟨l,rfl,h2,h3,h4⟩:=hx
 obtain⟨k,r,hk,rfl⟩:=(top_rep h3.1 (Nat.le_trans (repD_len h3 h4) hK) from_ hl hf).get
 obtain⟨_,hc,hr⟩:=Kd.V_reads' h2
 have e:val D (l.drop from_)=z/10000^from_:=by
  have hp:=pow_pos' (by decide:(0:Int)<D) from_;by_cases h:from_≤l.length
  · have h5:=val_take_drop D l from_ h;have t0:=val_nonneg (by decide:(0:Int)<D) (h3.1.take from_);have t1:=val_lt (by decide:(0:Int)<D) (h3.1.take from_);rw [List.length_take,Nat.min_eq_left h]at t1;rw [←h3.2.2,h5];show _=_/D^from_
    rw [Int.add_mul_ediv_left _ _ (by omega),Int.ediv_eq_zero_of_lt t0 t1];omega
  · have t0:=val_nonneg (by decide:(0:Int)<D) h3.1;have t1:=val_lt (by decide:(0:Int)<D) h3.1;have t2:D^l.length≤D^from_:=pow_mono (by decide) (by omega);rw [List.drop_of_length_le (by omega),←h3.2.2];show 0=_/D^from_
    rw [Int.ediv_eq_zero_of_lt t0 (by omega)]
 rw [e]at hk
 refine(linkworkref01_top.calls k A c l _ _ w hr hc hk).mono ?_
 rintro e w' ⟨rfl,nd,rfl⟩
 exact⟨rfl,pw_below_drewN (Below.refl _ _) nd⟩
theorem d_trim{w0:World}{v:Value}{l:List Int}(hB:Below w0.heap.size w0 w)(hR:Kd.R (Kd.int .i64) 3 w w0.heap.size (fun _=>True) v l)(hl:l.length≤17000000000000)(hd:Dg D l)(hv:val D l=z)(hK:z.natAbs<10000^K)(hP:∀k,w0.heap.size≤k→P k) :
 Calls Tryz.prog 114 #[v] w fun e w'=>∃(A:Option Addr) (n c:Nat),e=.returned (.slice A n c)∧IsD P K w' A n c z∧Below w0.heap.size w0 w'∧Kept w w' (fun k=>some k=v.ownBlock):=by
 obtain⟨k,r,hk,hr⟩:=(trim_rep hl hd hv).get
 refine(linkworkref01_trim.calls k (fun k=>some k=v.ownBlock) v l r w0 w hB (Kd.R_tight rfl hR) hk).mono ?_
 rintro e w' ⟨v',rfl,hv,hb,hk⟩
 obtain⟨A,c,rfl⟩:=Kd.R_slice hv
 exact⟨A,r.length,c,rfl,⟨r,rfl,Sd.own (e:=3) hv hP,hr,hK⟩,hb,hk⟩
theorem d_sizeNat(hx:IsD P K w A n c z)(hK:K≤17000000000000) :
 Calls Tryz.prog 108 #[.slice A n c] w fun e w'=>e=.returned (.int .i64 ((dec z.toNat).length:Int))∧Below w.heap.size w w':=by
 obtain⟨l,rfl,h2,h3,h4⟩:=hx
 obtain⟨k,r,hk,rfl⟩:=(sizeNat_rep h3 (Nat.le_trans (repD_len h3 h4) hK)).get
 obtain⟨_,hc,hr⟩:=Kd.V_reads' h2
 refine(linkworkref01_sizeNat.calls k A c l _ w hr hc hk).mono ?_
 rintro e w' ⟨rfl,nd,rfl⟩
 exact⟨rfl,pw_below_drewN (Below.refl _ _) nd⟩
theorem d_textNat(hx:IsD P K w A n c z)(hK:K≤17000000000000) :
 Calls Tryz.prog 68 #[.slice A n c] w fun e w'=>e=.returned (.string ⟨(dec z.toNat).toArray⟩)∧Below w.heap.size w w':=by
 obtain⟨l,rfl,h2,h3,h4⟩:=hx
 obtain⟨k,r,hk,rfl⟩:=(textNat_rep h3 (Nat.le_trans (repD_len h3 h4) hK)).get
 obtain⟨_,hc,hr⟩:=Kd.V_reads' h2
 exact linkworkref01_textNat.calls k A c l _ w hr hc hk
theorem d_digits(s:ByteArray)(hs:s.size≤140737488351232)(b:Bool)(hb:b=true↔Good s.data.toList) :
 Calls Tryz.prog 94 #[.string s] w fun e w'=>e=.returned (.bool b)∧Below w.heap.size w w':=by
 obtain⟨k,r,hk,hr⟩:=(digits_rep s hs).get
 obtain rfl:r=b:=by rw [Bool.eq_iff_iff,hr,hb]
 refine(linkworkref01_digits.calls k s r w hk).mono ?_
 rintro e w' ⟨rfl,nd,rfl⟩
 exact⟨rfl,pw_below_drewN (Below.refl _ _) nd⟩
theorem d_readNat(s:ByteArray)(hd:Digs s.data.toList)(hs:s.size≤4*K)(hK:K≤10000000000000)(hP:∀k,w.heap.size≤k→P k) :
 Calls Tryz.prog 95 #[.string s] w fun e w'=>∃(A:Option Addr) (n c:Nat),e=.returned (.slice A n c)∧IsD P K w' A n c (dval s.data.toList:Int)∧Below w.heap.size w w':=by
 obtain⟨k,r,hk,hr⟩:=(readNat_rep s (by omega) hd).get
 refine(linkworkref01_readNat.calls k s r w hk).mono ?_
 rintro e w' ⟨v,rfl,hv,hb⟩
 obtain⟨A,c,rfl⟩:=Kd.R_slice hv
 refine⟨A,r.length,c,rfl,⟨r,rfl,Sd.own (e:=3) hv hP,hr,?_⟩,hb⟩
 have hl:s.data.toList.length=s.size:=by rw [Array.length_toList];rfl
 have h1:=dval_lt hd
 have h2:10^s.data.toList.length≤10^(4*K):=Nat.pow_le_pow_right (by decide) (by omega)
 rw [Nat.pow_mul]at h2
 simp only [Int.natAbs_natCast]
 exact Nat.lt_of_lt_of_le h1 h2
end
end Go.Proofs.YtpdghgfbfmaplaaGreatDoor.Rf
end
