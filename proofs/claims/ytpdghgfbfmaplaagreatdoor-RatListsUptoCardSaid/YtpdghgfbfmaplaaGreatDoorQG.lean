/- Lemmas for RatLists. -/
import Derived.Test.YtpdghgfbfmaplaaGreatDoorZPWholex2
import Derived.Test.YtpdghgfbfmaplaaGreatDoorZPWholex3
import Derived.Test.YtpdghgfbfmaplaaGreatDoorZPWholex4
import Derived.Tactics2
import Derived.StillTactics
import Derived.Laws.Pointers
import Derived.Laws.ResultCell
set_option maxRecDepth 100000
set_option maxHeartbeats 8000000
section
set_option linter.unusedVariables false
namespace Go.Proofs.YtpdghgfbfmaplaaGreatDoor.WhC
open Go.RowKit Go.Proofs.YtpdghgfbfmaplaaGreatDoorW.PrintWords Go.Proofs.YtpdghgfbfmaplaaGreatDoor.Num Go.Proofs.YtpdghgfbfmaplaaGreatDoor.PWhole
abbrev B:Int:=1000000000
theorem w64{x:Int}(h1: -9223372036854775808≤x)(h2:x≤9223372036854775807):wrap64 x=x:=by unfold wrap64;omega
theorem wu64{x:Int}(h1:0≤x)(h2:x≤18446744073709551615):IntKind.u64.wrap x=x:=by
 have:(2:Int)^64=18446744073709551616:=by decide
 simp only [IntKind.wrap,IntKind.signed,IntKind.bits,this];simp;omega
theorem rd_nat(xs:List Int)(i:Nat):rd xs (i:Int)=at0 xs i:=by simp [rd,at0]
theorem plain_spec:∀(n:Nat) (l:List Int),l.length=n→n≤20000000000010→EvS (fun k=>whole_plain.l0 k l) (fun r=>Nm r∧(∃m,r=l.take m)∧∀b,val b r=val b l)
 | 0,l,hl,_=>by
  obtain rfl:l= []:=List.length_eq_zero_iff.1 hl;exact EvS.done (r:=[]) (fun k=>by simp [whole_plain.l0]) ⟨Nm.nil,⟨0,rfl⟩,fun _=>rfl⟩
 | n+1,l,hl,hb=>by
  obtain⟨l',x,rfl⟩:∃l' x,l=l'++ [x]:=by
   have:l≠ []:=by intro e;subst e;simp at hl
   exact⟨l.dropLast,l.getLast this,(List.dropLast_concat_getLast this).symm⟩
  have hl':l'.length=n:=by simpa using hl
  have hlen:((l'++ [x]).length:Int)=n+1:=by simp [hl']
  have e1:wrap64 (((l'++ [x]).length:Int)-1)=(n:Int):=by rw [hlen,w64 (by omega) (by omega)];omega
  have e2:rd (l'++ [x]) (n:Int)=x:=by rw [rd_nat,at0_lt (by simp [hl'])];simp [←hl']
  by_cases hx:x=0
  · subst hx;have ih:=plain_spec n l' hl' (by omega);refine EvS.step (h:=fun k=>whole_plain.l0 k l') (ih.mono ?_) (fun k=>?_)
    · rintro r ⟨h1,⟨m,h2⟩,h3⟩;refine⟨h1,⟨min m n,?_⟩,fun b=>?_⟩
      · rw [h2,List.take_append_of_le_length (by omega),List.take_eq_take_min,hl']
      · rw [h3,val_append];simp [val]
    · simp only [whole_plain.l0,e1,e2];rw [if_pos (by omega),if_pos (by omega),if_pos (by omega),if_pos trivial,if_pos (by omega)];simp [←hl']
  · refine EvS.done (r:=l'++ [x]) (fun k=>?_) ⟨?_,⟨(l'++ [x]).length,(List.take_length).symm⟩,fun _=>rfl⟩
    · simp only [whole_plain.l0,e1,e2];rw [if_pos (by omega),if_pos (by omega),if_pos (by omega),if_neg hx]
    · rw [Nm_append_ne (by simp)];simp [Nm];exact hx
theorem plain_rep{l:List Int}{n:Int}(hl:l.length≤20000000000010)(hd:Dg B l)(hv:val B l=n):EvS (fun k=>whole_plain.f k l) (fun r=>Rep B r n):=by
 refine((plain_spec _ l rfl hl).mono ?_).congr (fun k=>rfl)
 rintro r ⟨h1,⟨m,rfl⟩,h3⟩
 exact⟨hd.take m,h1,by rw [h3,hv]⟩
theorem signed_rep{l:List Int}{n:Int}(m:Bool)(hl:l.length≤20000000000010)(hd:Dg B l)(hv:val B l=n) :
 EvS (fun k=>whole_signed.f k l m) (fun r=>Rep B r.2 n∧r.1=(m&&decide (n≠0))):=by
 refine(EvS.bind (plain_rep hl hd hv) (f:=fun k t=>if m=true then(some (decide ((t.length:Int)>0),t))else (some (false,t))) (fun r hr=>?_)).congr (fun k=>rfl)
 have hz:=hr.nil_iff (by decide)
 cases m with
 | false=>exact EvS.pure ⟨hr,by simp⟩
 | true =>
  refine EvS.pure (r:=(decide ((r.length:Int)>0),r)) ⟨hr,?_⟩;simp only [Bool.true_and];rw [decide_eq_decide];cases r with
  | nil=>simp at hz ⊢;exact hz
  | cons x xs=>simp at hz ⊢;exact hz
theorem dgbd{l:List Int}(h:Dg B l)(i:Nat):0≤at0 l i∧at0 l i<1000000000:=h.at0_ (by decide) i
theorem compare_l0{a b:List Int}(ha:Dg B a)(hb:Dg B b)(he:a.length=b.length)(hl:a.length≤20000000000010):∀(i:Nat),i≤a.length→val B (a.drop i)=val B (b.drop i) →
 EvS (fun k=>whole_compare.l0 k a b ((i:Int)-1)) (fun r=>(r<0↔val B a<val B b)∧(r=0↔val B a=val B b)∧(0<r↔val B b<val B a))
 | 0,_,hv=>by
  refine EvS.done (r:=0) (fun k=>by simp only [whole_compare.l0];rw [if_neg (by omega)]) ?_;simp at hv
  rw [hv];simp
 | i+1,hi,hv=>by
  have h0:=dgbd ha i;have h1:=dgbd hb i;have r1:rd a (((i+1:Nat):Int)-1)=at0 a i:=by rw [show (((i+1:Nat):Int)-1)=(i:Int) by omega,rd_nat]
  have r2:rd b (((i+1:Nat):Int)-1)=at0 b i:=by rw [show (((i+1:Nat):Int)-1)=(i:Int) by omega,rd_nat]
  have da:a.drop i=at0 a i :: a.drop (i+1):=by rw [List.drop_eq_getElem_cons (by omega),at0_lt (by omega)]
  have db:b.drop i=at0 b i :: b.drop (i+1):=by rw [List.drop_eq_getElem_cons (by omega),at0_lt (by omega)]
  by_cases e:at0 a i=at0 b i
  · refine EvS.step (h:=fun k=>whole_compare.l0 k a b ((i:Int)-1)) (compare_l0 ha hb he hl i (by omega) (by rw [da,db];simp only [val];rw [e,hv])) (fun k=>?_);simp only [whole_compare.l0,r1,r2];rw [if_pos (by omega),if_pos (by omega),if_pos (by omega),if_pos (by omega),if_pos e,w64 (by omega) (by omega)];congr 1
    omega
  · refine EvS.done (r:=at0 a i-at0 b i) (fun k=>?_) ?_
    · simp only [whole_compare.l0,r1,r2];rw [if_pos (by omega),if_pos (by omega),if_pos (by omega),if_pos (by omega),if_neg e,w64 (x:=at0 a i) (by omega) (by omega),w64 (x:=at0 b i) (by omega) (by omega),w64 (by omega) (by omega)]
    · have va:=val_take_drop B a i (by omega);have vb:=val_take_drop B b i (by omega);have la:=val_lt (by decide:(0:Int)<B) (ha.take i);have lb:=val_lt (by decide:(0:Int)<B) (hb.take i);have na:=val_nonneg (by decide:(0:Int)<B) (ha.take i);have nb:=val_nonneg (by decide:(0:Int)<B) (hb.take i);rw [List.length_take,Nat.min_eq_left (by omega)]at la lb;rw [da]at va;rw [db]at vb;simp only [val]at va vb;rw [hv]at va;generalize val B (a.take i)=ta at *
      generalize val B (b.take i)=tb at *
      generalize val B (b.drop (i+1))=dd at *
      generalize B^i=P at *
      have key:val B a-val B b=(ta-tb)+P*(at0 a i-at0 b i):=by rw [va,vb];grind
      have kk:(at0 a i<at0 b i→P*(at0 a i-at0 b i)≤ - P)∧(at0 b i<at0 a i→P≤P*(at0 a i-at0 b i)):=by
       constructor
       · intro h;have:=Int.mul_le_mul_of_nonneg_left (show at0 a i-at0 b i≤ -1 by omega) (show 0≤P by omega);omega
       · intro h;have:=Int.mul_le_mul_of_nonneg_left (show 1≤at0 a i-at0 b i by omega) (show 0≤P by omega);omega
      have k1:=kk.1;have k2:=kk.2;generalize P*(at0 a i-at0 b i)=Q at *
      omega
theorem compare_rep{a b:List Int}{n m:Int}(ha:Rep B a n)(hb:Rep B b m)(hla:a.length≤20000000000010)(hlb:b.length≤20000000000010) :
 EvS (fun k=>whole_compare.f k a b) (fun r=>(r<0↔n<m)∧(r=0↔n=m)∧(0<r↔m<n)):=by
 obtain⟨da,na,rfl⟩:=ha
 obtain⟨db,nb,rfl⟩:=hb
 by_cases e:a.length=b.length
 · refine(compare_l0 da db e hla a.length (Nat.le_refl _) (by rw [List.drop_of_length_le (by omega),List.drop_of_length_le (by omega)])).congr (fun k=>?_);simp only [whole_compare.f];rw [if_pos (by omega),w64 (by omega) (by omega)]
 · refine(EvS.pure (r:=(a.length:Int)-b.length) ?_).congr (fun k=>by simp only [whole_compare.f];rw [if_neg (by omega),w64 (by omega) (by omega)]);have hB:(0:Int)<B:=by decide
   have key:∀ {x y:List Int},Dg B x→Dg B y→Nm y→x.length<y.length→val B x<val B y:=by
    intro x y dx dy ny h;have h1:=val_lt hB dx;have h2:=val_ge_of_Nm hB dy ny (by intro e;subst e;simp at h);have h3:B^x.length≤B^(y.length-1):=pow_mono (by decide) (by omega);omega
   rcases Nat.lt_or_gt_of_ne e with h|h
   · have:=key da db nb h;omega
   · have:=key db da na h;omega
theorem more_l0{a b:List Int}(ha:Dg B a)(hb:Dg B b)(hle:b.length≤a.length)(hl:a.length≤20000000000010):∀(d i:Nat) (out:List Int) (c:Int),a.length=i+d→out.length=i→Dg B out→0≤c∧c≤1 →
 val B out+B^i*c=val B (a.take i)+val B (b.take i) →
 EvS (fun k=>whole_more.l0 k b out c a (a.length:Int) (i:Int)) (fun r=>Dg B r∧r.length=a.length+1∧val B r=val B a+val B b)
 | 0,i,out,c,hd,ho,hout,hc,hv=>by
  refine EvS.done (r:=out++ [c]) (fun k=>?_) ⟨?_,by simp [ho];omega,?_⟩
  · simp only [whole_more.l0];rw [if_neg (by omega),if_pos (by omega)]
  · rw [Dg_append];exact⟨hout,by intro x hx;simp at hx;subst hx;exact⟨hc.1,by show _<(1000000000:Int);omega⟩⟩
  · rw [val_snoc,ho,hv,List.take_of_length_le (by omega),List.take_of_length_le (by omega)]
 | d+1,i,out,c,hd,ho,hout,hc,hv=>by
  have h0:=dgbd ha i;have h1:=dgbd hb i;have ea:=val_take_succ B a i;have eb:=val_take_succ B b i;have key:∀s:Int,s=at0 a i+at0 b i+c→val B (out++ [s%1000000000])+B^(i+1)*(s/1000000000)=val B (a.take (i+1))+val B (b.take (i+1)):=by
   intro s hs;rw [val_snoc,ho,ea,eb,Int.pow_succ];have e1:s%1000000000=s-1000000000*(s/1000000000):=by omega
   rw [e1];generalize s/1000000000=q at *
   subst hs;generalize B^i=P at *
   show val B out+P*(at0 a i+at0 b i+c-1000000000*q)+P*1000000000*q=_
   grind
  have next:=fun (s:Int) (hs:s=at0 a i+at0 b i+c)=>more_l0 ha hb hle hl d (i+1) (out++ [s%1000000000]) (s/1000000000) (by omega) (by simp [ho])
   (by rw [Dg_append];exact⟨hout,by intro x hx;simp at hx;subst hx;exact⟨by omega,by show _<(1000000000:Int);omega⟩⟩) (by omega) (key s hs)
  by_cases hb1:i<b.length
  · refine EvS.step (next (at0 a i+at0 b i+c) rfl) (fun k=>?_);simp only [whole_more.l0,rd_nat];rw [if_pos (by omega),if_pos (by omega),if_pos (by omega),if_pos (by omega),if_pos (by omega)];rw [show (at0 a i+c+at0 b i)%4294967296=at0 a i+at0 b i+c by omega,w64 (by omega) (by omega)];rfl
  · have hz:at0 b i=0:=at0_ge (by omega);refine EvS.step (next (at0 a i+c) (by omega)) (fun k=>?_);simp only [whole_more.l0,rd_nat];rw [if_pos (by omega),if_pos (by omega),if_pos (by omega),if_neg (by omega),if_pos (by omega)];rw [show (at0 a i+c)%4294967296=at0 a i+c by omega,w64 (by omega) (by omega)];rfl
theorem moreS_l0:@PWholeS.whole_more.l0=@whole_more.l0:=by
 funext k
 induction k with
 | zero=>rfl
 | succ k ih=>funext a b c d e f;simp only [PWholeS.whole_more.l0,whole_more.l0,ih]
theorem more_sum{a b:List Int}(ha:Dg B a)(hb:Dg B b)(hla:a.length≤20000000000010)(hlb:b.length≤20000000000010) :
 (¬a.length<b.length→EvS (fun k=>whole_more.f k a b) (fun r=>Dg B r∧r.length≤max a.length b.length+1∧val B r=val B a+val B b)) ∧
 (a.length<b.length→EvS (fun k=>PWholeS.whole_more.f k a b) (fun r=>Dg B r∧r.length≤max a.length b.length+1∧val B r=val B a+val B b)):=by
 constructor
 · intro h;refine((more_l0 ha hb (by omega) hla a.length 0 [] 0 (by omega) rfl (Dg.nil _) (by omega) (by simp [val])).mono ?_).congr (fun k=>?_)
   · rintro r ⟨h1,h2,h3⟩;exact⟨h1,by omega,h3⟩
   · simp only [whole_more.f];rw [if_neg (by omega),w64 (by omega) (by omega),if_pos (by omega),if_pos (by omega)];rfl
 · intro h;refine((more_l0 hb ha (by omega) hlb b.length 0 [] 0 (by omega) rfl (Dg.nil _) (by omega) (by simp [val])).mono ?_).congr (fun k=>?_)
   · rintro r ⟨h1,h2,h3⟩;exact⟨h1,by omega,by omega⟩
   · simp only [PWholeS.whole_more.f,moreS_l0];rw [if_pos (by omega),w64 (by omega) (by omega),if_pos (by omega),if_pos (by omega)];rfl
theorem less_l0{a b:List Int}(ha:Dg B a)(hb:Dg B b)(hl:a.length≤20000000000010):∀(d i:Nat) (out:List Int) (c:Int),a.length=i+d→out.length=a.length→Dg B out→0≤c∧c≤1→out.drop i=a.drop i →
 val B (out.take i)-B^i*c=val B (a.take i)-val B (b.take i) →
 EvS (fun k=>whole_less.l0 k b out c (a.length:Int) (i:Int)) (fun r=>Dg B r∧r.length=a.length∧∃c',0≤c'∧c'≤1∧val B r=val B a-val B (b.take a.length)+B^a.length*c')
 | 0,i,out,c,hd,ho,hout,hc,hdr,hv=>by
  refine EvS.done (r:=out) (fun k=>?_) ⟨hout,ho,c,hc.1,hc.2,?_⟩
  · simp only [whole_less.l0];rw [if_neg (by omega)]
  · obtain rfl:i=a.length:=by omega
    rw [List.take_of_length_le (by omega),List.take_of_length_le (by omega)]at hv;omega
 | d+1,i,out,c,hd,ho,hout,hc,hdr,hv=>by
  have h0:=dgbd ha i;have h1:=dgbd hb i;have h2:=dgbd hout i;have ea:=val_take_succ B a i;have eb:=val_take_succ B b i;have eo:at0 out i=at0 a i:=by
   have e1:out.drop i=at0 out i :: out.drop (i+1):=by rw [List.drop_eq_getElem_cons (by omega),at0_lt (by omega)]
   have e2:a.drop i=at0 a i :: a.drop (i+1):=by rw [List.drop_eq_getElem_cons (by omega),at0_lt (by omega)]
   rw [e1,e2]at hdr;exact(List.cons.inj hdr).1
  have step:∀(v c':Int),0≤v→v<1000000000→0≤c'∧c'≤1→v-1000000000*c'=at0 a i-c-at0 b i→EvS (fun k=>whole_less.l0 k b (out.set i v) c' (a.length:Int) ((i+1:Nat):Int)) (fun r=>Dg B r∧r.length=a.length∧∃c',0≤c'∧c'≤1∧val B r=val B a-val B (b.take a.length)+B^a.length*c'):=by
   intro v c' hv0 hv1 hc' he;refine less_l0 ha hb hl d (i+1) (out.set i v) c' (by omega) (by simp [ho]) (hout.set i ⟨hv0,hv1⟩) hc' ?_ ?_
   · rw [List.drop_set_of_lt (by omega)];have:=congrArg (List.drop 1) hdr;simpa [List.drop_drop,Nat.add_comm]using this
   · have e3:(out.set i v).take (i+1)=out.take i++ [v]:=by
      rw [List.take_succ_eq_append_getElem (by simp;omega),List.take_set_of_le (by omega)];simp
     rw [e3,val_snoc,List.length_take,Nat.min_eq_left (by omega),ea,eb,Int.pow_succ];generalize B^i=P at *
     show val B (out.take i)+P*v-P*1000000000*c'=_
     have:v=at0 a i-c-at0 b i+1000000000*c':=by omega
     subst this;grind
  have fin:∀ {v c':Int},EvS (fun k=>whole_less.l0 k b (out.set i v) c' (a.length:Int) ((i+1:Nat):Int)) (fun r=>Dg B r∧r.length=a.length∧∃c',0≤c'∧c'≤1∧val B r=val B a-val B (b.take a.length)+B^a.length*c') →
   (∀k,whole_less.l0 (k+1) b out c (a.length:Int) (i:Int)=whole_less.l0 k b (out.set i v) c' (a.length:Int) (wrap64 ((i:Int)+1)))→EvS (fun k=>whole_less.l0 k b out c (a.length:Int) (i:Int)) (fun r=>Dg B r∧r.length=a.length∧∃c',0≤c'∧c'≤1∧val B r=val B a-val B (b.take a.length)+B^a.length*c'):=by
   intro v c' H hk;refine EvS.step H (fun k=>?_);rw [hk,w64 (by omega) (by omega)];rfl
  have w1:wrap64 (at0 out i)=at0 a i:=by rw [eo];exact w64 (by omega) (by omega)
  have w2:wrap64 (at0 b i)=at0 b i:=w64 (by omega) (by omega);have w3:wrap64 (at0 a i-c)=at0 a i-c:=w64 (by omega) (by omega);have w4:wrap64 (at0 a i-c-at0 b i)=at0 a i-c-at0 b i:=w64 (by omega) (by omega);have w5:wrap64 (at0 a i-c-at0 b i+1000000000)=at0 a i-c-at0 b i+1000000000:=w64 (by omega) (by omega);have w6:wrap64 (at0 a i-c+1000000000)=at0 a i-c+1000000000:=w64 (by omega) (by omega);by_cases hb1:i<b.length
  · by_cases hs:at0 a i-c-at0 b i<0
    · refine fin (step (at0 a i-c-at0 b i+1000000000) 1 (by omega) (by omega) (by omega) (by omega)) (fun k=>?_);simp only [whole_less.l0,rd_nat,w1,w2,w3,w4,w5];rw [if_pos (by omega),if_pos (by omega),if_pos (by omega),if_pos (by omega),if_pos hs,Int.emod_eq_of_lt (by omega) (by omega),Int.toNat_natCast]
    · refine fin (step (at0 a i-c-at0 b i) 0 (by omega) (by omega) (by omega) (by omega)) (fun k=>?_);simp only [whole_less.l0,rd_nat,w1,w2,w3,w4,w5];rw [if_pos (by omega),if_pos (by omega),if_pos (by omega),if_pos (by omega),if_neg hs,Int.emod_eq_of_lt (by omega) (by omega),Int.toNat_natCast]
  · have hz:at0 b i=0:=at0_ge (by omega);by_cases hs:at0 a i-c<0
    · refine fin (step (at0 a i-c+1000000000) 1 (by omega) (by omega) (by omega) (by omega)) (fun k=>?_);simp only [whole_less.l0,rd_nat,w1,w2,w3,w4,w6];rw [if_pos (by omega),if_pos (by omega),if_pos (by omega),if_neg (by omega),if_pos hs,Int.emod_eq_of_lt (by omega) (by omega),Int.toNat_natCast]
    · refine fin (step (at0 a i-c) 0 (by omega) (by omega) (by omega) (by omega)) (fun k=>?_);simp only [whole_less.l0,rd_nat,w1,w2,w3,w4,w6];rw [if_pos (by omega),if_pos (by omega),if_pos (by omega),if_neg (by omega),if_neg hs,Int.emod_eq_of_lt (by omega) (by omega),Int.toNat_natCast]
theorem less_diff{a b:List Int}(ha:Dg B a)(hb:Dg B b)(hl:a.length≤20000000000010)(hab:val B b≤val B a) :
 EvS (fun k=>whole_less.f k a b) (fun r=>Dg B r∧r.length=a.length∧val B r=val B a-val B b):=by
 have hB:(0:Int)<B:=by decide
 refine((less_l0 ha hb hl a.length 0 a 0 (by omega) rfl ha (by omega) rfl (by simp [val])).mono ?_).congr (fun k=>?_)
 · rintro r ⟨h1,h2,c,h3,h4,h5⟩;refine⟨h1,h2,?_⟩;have r1:=val_lt hB h1;have r0:=val_nonneg hB h1;have b1:=val_nonneg hB (hb.drop a.length);have a1:=val_lt hB ha;have bt:=val_nonneg hB (hb.take a.length);rw [h2]at r1;have hP:=pow_pos' hB a.length;have hbv:val B b=val B (b.take a.length)+B^a.length*val B (b.drop a.length):=by
    by_cases h:a.length≤b.length
    · exact val_take_drop B b _ h
    · rw [List.take_of_length_le (by omega),List.drop_of_length_le (by omega)];simp [val]
   have hdz:val B (b.drop a.length)=0:=by
    rcases Int.lt_or_le 0 (val B (b.drop a.length))with h|h
    · have:=Int.mul_le_mul_of_nonneg_left (show(1:Int)≤val B (b.drop a.length) by omega) (show 0≤B^a.length by omega);omega
    · omega
   rw [hdz]at hbv;simp only [Int.mul_zero,Int.add_zero]at hbv;rcases(by omega:c=0∨c=1)with e|e
   · subst e;rw [hbv];omega
   · subst e;rw [←hbv]at h5;omega
 · simp only [whole_less.f,slices_Clone_uint32_uint32.f];rw [if_pos (by omega)];rfl
theorem small_l0{a:List Int}{by_:Int}(ha:Dg B a)(hy:0<by_∧by_<4294967296)(hl:a.length≤20000000000010):∀(i:Nat) (out:List Int) (rest:Int),i≤a.length→out.length=a.length→Dg B out→0≤rest∧rest<by_→val B (out.take i)=0 →
 val B (out.drop i)*by_+rest=val B (a.drop i) →
 EvS (fun k=>whole_small.l0 k a by_ out rest ((i:Int)-1)) (fun r=>Dg B r.1∧r.1.length=a.length∧(0≤r.2∧r.2<by_)∧val B r.1*by_+r.2=val B a)
 | 0,out,rest,hi,ho,hout,hr,hz,hv=>by
  refine EvS.done (r:=(out,rest)) (fun k=>?_) ⟨hout,ho,hr,by simpa using hv⟩;simp only [whole_small.l0];rw [if_neg (by omega),Int.emod_eq_of_lt (by omega) (by omega)]
 | i+1,out,rest,hi,ho,hout,hr,hz,hv=>by
  have h0:=dgbd ha i;have hr1:rd a (((i+1:Nat):Int)-1)=at0 a i:=by rw [show (((i+1:Nat):Int)-1)=(i:Int) by omega,rd_nat]
  have da:a.drop i=at0 a i :: a.drop (i+1):=by rw [List.drop_eq_getElem_cons (by omega),at0_lt (by omega)]
  have m1:0≤rest*1000000000+at0 a i:=by omega
  have m2:rest*1000000000+at0 a i<by_*1000000000:=by omega
  have m3:rest*1000000000+at0 a i<4294967296000000000:=by omega
  have q0:0≤(rest*1000000000+at0 a i)/by_:=Int.ediv_nonneg m1 (by omega);have q1:(rest*1000000000+at0 a i)/by_<1000000000:=Int.ediv_lt_of_lt_mul (by omega) (by rw [Int.mul_comm 1000000000 by_];exact m2);have r0:=Int.emod_nonneg (rest*1000000000+at0 a i) (show by_≠0 by omega);have r1:=Int.emod_lt_of_pos (rest*1000000000+at0 a i) (show 0<by_ by omega);have qr:=Int.mul_ediv_add_emod (rest*1000000000+at0 a i) by_;have zz:at0 out i=0:=by
   have e:=val_take_succ B out i;rw [hz]at e;have t0:=val_nonneg (by decide:(0:Int)<B) (hout.take i);have t1:=dgbd hout i;have t2:0<B^i:=pow_pos' (by decide) i;rcases Int.lt_or_le 0 (at0 out i)with h|h
   · have:=Int.mul_pos t2 h;omega
   · omega
  have zt:val B (out.take i)=0:=by
   have e:=val_take_succ B out i;rw [hz,zz]at e;simp at e
   exact e.symm
  generalize hq:(rest*1000000000+at0 a i)/by_=q at *
  generalize hm:(rest*1000000000+at0 a i)%by_=m at *
  refine EvS.step (h:=fun k=>whole_small.l0 k a by_ (out.set i q) m ((i:Int)-1)) (small_l0 ha hy hl i (out.set i q) m (by omega) (by simp [ho]) (hout.set i ⟨q0,q1⟩) ⟨r0,r1⟩ ?_ ?_) (fun k=>?_)
  · rw [List.take_set_of_le (by omega)];exact zt
  · have dn:(out.set i q).drop i=q :: out.drop (i+1):=by
     rw [List.drop_eq_getElem_cons (by simp;omega),List.drop_set_of_lt (by omega)];simp
    rw [dn,da];simp only [val];rw [←hv];show(q+1000000000*val B (List.drop (i+1) out))*by_+m=at0 a i+1000000000*(val B (List.drop (i+1) out)*by_+rest)
    grind
  · simp only [whole_small.l0,hr1]
    rw [if_pos (by omega),if_pos (by omega),if_pos (by omega),wu64 (x:=by_) (by omega) (by omega),if_neg (by omega),if_pos (by omega),
     wu64 (x:=rest*1000000000) (by omega) (by omega),wu64 (x:=at0 a i) (by omega) (by omega),wu64 (x:=rest*1000000000+at0 a i) (by omega) (by omega),
     Int.tdiv_eq_ediv_of_nonneg m1,Int.tmod_eq_emod_of_nonneg m1,hq,hm,wu64 (x:=q) (by omega) (by omega),Int.emod_eq_of_lt (by omega) (by omega),w64 (by omega) (by omega)]
    rw [show (((i+1:Nat):Int)-1)=(i:Int) by omega,Int.toNat_natCast]
theorem small_div{a:List Int}{by_:Int}(ha:Dg B a)(hy:0<by_∧by_<4294967296)(hl:a.length≤20000000000010) :
 EvS (fun k=>whole_small.f k a by_) (fun r=>Dg B r.1∧r.1.length=a.length∧(0≤r.2∧r.2<by_)∧val B r.1*by_+r.2=val B a):=by
 refine(small_l0 ha hy hl a.length (List.replicate a.length 0) 0 (Nat.le_refl _) (by simp) (Dg.replicate (by decide) _) (by omega) ?_ ?_).congr (fun k=>?_)
 · rw [List.take_of_length_le (by simp)];exact val_replicate _ _
 · rw [List.drop_of_length_le (by simp),List.drop_of_length_le (by simp)];simp [val]
 · simp only [whole_small.f];rw [if_pos (by omega),if_pos (by omega),w64 (by omega) (by omega),Int.toNat_natCast]
theorem of_l0(neg:Bool):∀(d:Nat) (u:Int) (out:List Int),0≤u→u<1000000000^d→u≤18446744073709551615→d+out.length≤1000→Dg B out→(u=0→Nm out) →
 EvS (fun k=>whole_Of.l0 k u neg out) (fun r=>r.1=neg∧Rep B r.2 (val B out+B^out.length*u))
 | 0,u,out,h0,h1,h2,hl,hout,hn=>by
  have:u=0:=by simp at h1;omega
  subst this;exact EvS.done (r:=(neg,out)) (fun k=>by simp [whole_Of.l0]) ⟨rfl,hout,hn rfl,by simp⟩
 | d+1,u,out,h0,h1,h2,hl,hout,hn=>by
  by_cases hu:u=0
  · subst hu;exact EvS.done (r:=(neg,out)) (fun k=>by simp [whole_Of.l0]) ⟨rfl,hout,hn rfl,by simp⟩
  · have q1:u/1000000000<1000000000^d:=Int.ediv_lt_of_lt_mul (by decide) (by rw [Int.pow_succ]at h1;exact h1);refine EvS.step (h:=fun k=>whole_Of.l0 k (u/1000000000) neg (out++ [u%1000000000])) ((of_l0 neg d (u/1000000000) (out++ [u%1000000000]) (by omega) q1 (by omega) (by simp;omega) ?_ ?_).mono ?_) (fun k=>?_)
    · rw [Dg_append];exact⟨hout,by intro x hx;simp at hx;subst hx;exact⟨by omega,by show _<(1000000000:Int);omega⟩⟩
    · intro hz;rw [Nm_append_ne (by simp)];simp [Nm];omega
    · rintro r ⟨e1,e2⟩;refine⟨e1,?_⟩;rw [val_snoc,List.length_append,List.length_singleton,Int.pow_succ]at e2;have:val B out+B^out.length*(u%1000000000)+B^out.length*B*(u/1000000000)=val B out+B^out.length*u:=by
       generalize B^out.length=P at *
       have e:u%1000000000=u-1000000000*(u/1000000000):=by omega
       rw [e];generalize u/1000000000=q at *
       show val B out+P*(u-1000000000*q)+P*1000000000*q=_
       grind
      rw [this]at e2;exact e2
    · simp only [whole_Of.l0];rw [if_pos (by omega),if_pos (by omega),Int.tdiv_eq_ediv_of_nonneg (by omega),Int.tmod_eq_emod_of_nonneg (by omega),wu64 (by omega) (by omega),Int.emod_eq_of_lt (a:=u%1000000000) (by omega) (by omega)]
theorem of_rep(n:Int)(h1: -9223372036854775808≤n)(h2:n≤9223372036854775807):EvS (fun k=>whole_Of.f k n) (fun r=>r.1=decide (n<0)∧Rep B r.2 (n.natAbs:Int)):=by
 have key:∀u:Int,0≤u→u≤9223372036854775808→u<1000000000^4:=fun u _ _=>by
  have:(1000000000:Int)^4=1000000000000000000000000000000000000:=by decide
  omega
 by_cases hn:n<0
 · have e:IntKind.u64.wrap (-(IntKind.u64.wrap n))= -n:=by
    have:(2:Int)^64=18446744073709551616:=by decide
    simp only [IntKind.wrap,IntKind.signed,IntKind.bits,this];simp;omega
   refine((of_l0 (decide (n<0)) 4 (-n) [] (by omega) (key _ (by omega) (by omega)) (by omega) (by simp) (Dg.nil _) (fun _=>Nm.nil)).mono ?_).congr (fun k=>?_)
   · rintro r ⟨e1,e2⟩;refine⟨e1,?_⟩;simp [val]at e2
     rwa [show (n.natAbs:Int)= -n by omega]
   · simp only [whole_Of.f];rw [if_pos hn,e]
 · refine((of_l0 (decide (n<0)) 4 n [] (by omega) (key _ (by omega) (by omega)) (by omega) (by simp) (Dg.nil _) (fun _=>Nm.nil)).mono ?_).congr (fun k=>?_)
   · rintro r ⟨e1,e2⟩;refine⟨e1,?_⟩;simp [val]at e2
     rwa [show (n.natAbs:Int)=n by omega]
   · simp only [whole_Of.f];rw [if_neg hn,wu64 (by omega) (by omega)]
end Go.Proofs.YtpdghgfbfmaplaaGreatDoor.WhC
end
section
set_option linter.unusedVariables false
namespace Go.Proofs.YtpdghgfbfmaplaaGreatDoor.WhC
open Go.RowKit Go.Proofs.YtpdghgfbfmaplaaGreatDoorW.PrintWords Go.Proofs.YtpdghgfbfmaplaaGreatDoor.Num Go.Proofs.YtpdghgfbfmaplaaGreatDoor.PWhole
theorem mul_l2{S:Bool×List Int→Prop}{a b:List Int}{la i:Int}{m1 m2:Bool}{l1:List Int}(L:Nat)(hL:L≤3000000000000)(T:Int)
 (hT:T<B^L) (next:∀out:List Int,Dg B out→out.length=L→val B out=T→EvS (fun k=>whole_Whole_Mul.l0 k out a la (wrap64 (i+1)) m1 l1 m2 b) S) :
 ∀(d:Nat) (p:Nat) (out:List Int) (c:Int),p+d=L+1→Dg B out→out.length=L→0≤c∧c<4000000000→val B out+B^p*c=T →
  EvS (fun k=>whole_Whole_Mul.l2 k out c (p:Int) a la i m1 l1 m2 b) S
 | 0,p,out,c,hd,hout,ho,hc,hv=>by
  have hB:(0:Int)<B:=by decide
  have:c=0:=by
   rcases Int.lt_or_le 0 c with h|h
   · exfalso
     have h0:=val_nonneg hB hout;have h2:B^p*1≤B^p*c:=Int.mul_le_mul_of_nonneg_left (by omega) (Int.le_of_lt (pow_pos' hB p));have h3:B^L≤B^p:=pow_mono (by decide) (by omega);omega
   · omega
  subst this;refine EvS.step (next out hout ho (by simpa using hv)) (fun k=>?_);simp only [whole_Whole_Mul.l2];rw [if_neg (by omega)]
 | d+1,p,out,c,hd,hout,ho,hc,hv=>by
  have hB:(0:Int)<B:=by decide
  by_cases hz:c=0
  · subst hz;refine EvS.step (next out hout ho (by simpa using hv)) (fun k=>?_);simp only [whole_Whole_Mul.l2];rw [if_neg (by omega)]
  · have hp:p<L:=by
     rcases Nat.lt_or_ge p L with h|h
     · exact h
     · exfalso
       have h0:=val_nonneg hB hout;have h2:B^p*1≤B^p*c:=Int.mul_le_mul_of_nonneg_left (by omega) (Int.le_of_lt (pow_pos' hB p));have h3:B^L≤B^p:=pow_mono (by decide) (by omega);omega
    have h0:=dgbd hout p;refine EvS.step (mul_l2 L hL T hT next d (p+1) (out.set p ((at0 out p+c)%1000000000)) ((at0 out p+c)/1000000000) (by omega) (hout.set p ⟨by omega,by show _<(1000000000:Int);omega⟩) (by simp [ho]) (by omega) ?_) (fun k=>?_)
    · rw [val_set _ _ _ _ (by omega),Int.pow_succ,←hv];have e:(at0 out p+c)%1000000000=at0 out p+c-1000000000*((at0 out p+c)/1000000000):=by omega
      rw [e];generalize (at0 out p+c)/1000000000=q at *
      generalize B^p=P at *
      show val B out+P*(at0 out p+c-1000000000*q-at0 out p)+P*1000000000*q=val B out+P*c
      grind
    · simp only [whole_Whole_Mul.l2,rd_nat]
      rw [if_pos (by omega),if_pos (by omega),if_pos (by omega),wu64 (x:=at0 out p) (by omega) (by omega),wu64 (x:=at0 out p+c) (by omega) (by omega),
       Int.tdiv_eq_ediv_of_nonneg (by omega),Int.tmod_eq_emod_of_nonneg (by omega),wu64 (by omega) (by omega),Int.emod_eq_of_lt (a:=(at0 out p+c)%1000000000) (by omega) (by omega),w64 (x:=(p:Int)+1) (by omega) (by omega),Int.toNat_natCast]
      rfl
theorem quo_rem(s:Int)(h0:0≤s)(h1:s≤2000000000000000000):IntKind.u64.wrap (Int.tdiv s 1000000000)=s/1000000000∧Int.tmod s 1000000000%4294967296=s%1000000000:=by
 rw [Int.tdiv_eq_ediv_of_nonneg h0,Int.tmod_eq_emod_of_nonneg h0]
 exact⟨wu64 (by omega) (by omega),by omega⟩
theorem mul_l1_aux{a b out:List Int}{la:Int}{m1 m2:Bool}{l1:List Int}(i j:Nat)(x c s y o p:Int)(ho:at0 out (i+j)=o)(hy:at0 b j=y)(hp:x*y=p)(hs:p+o+c=s)
 (g1:(j:Int)<(b.length:Int)) (g2:(0:Int)≤(j:Int)) (g3:(0:Int)≤((i+j:Nat):Int)) (g4:((i+j:Nat):Int)<(out.length:Int))
 (w1:wrap64 ((i:Int)+(j:Int))=((i+j:Nat):Int)) (w2:IntKind.u64.wrap x=x) (w3:IntKind.u64.wrap y=y) (w4:IntKind.u64.wrap p=p) (w5:IntKind.u64.wrap o=o) (w6:IntKind.u64.wrap (p+o)=p+o) (w7:IntKind.u64.wrap s=s)
 (w8:IntKind.u64.wrap (Int.tdiv s 1000000000)=s/1000000000∧Int.tmod s 1000000000%4294967296=s%1000000000) (w11:wrap64 ((j:Int)+1)=((j+1:Nat):Int)) (k:Nat) :
 whole_Whole_Mul.l1 (k+1) out (i:Int) x c a la (i:Int) b (b.length:Int) (j:Int) m1 l1 m2 b =
  whole_Whole_Mul.l1 k (out.set (i+j) (s%1000000000)) (i:Int) x (s/1000000000) a la (i:Int) b (b.length:Int) ((j+1:Nat):Int) m1 l1 m2 b:=by
 simp only [whole_Whole_Mul.l1,rd_nat,ho,hy,w1,w2,w3,hp,w4,w5,w6,hs,w7,w8.1,w8.2,w11,Int.toNat_natCast]
 rw [if_pos g1,if_pos g2,if_pos g1,if_pos g3,if_pos g4]
theorem mul_l1_step{a b out:List Int}{la:Int}{m1 m2:Bool}{l1:List Int}(i j:Nat)(x c s y o:Int)(hx:0≤x∧x<1000000000)(hc:0≤c∧c<1000000000)(hj:j<b.length)(hij:i+j<out.length)(hlo:out.length≤3000000000000)
 (ho:at0 out (i+j)=o) (hy:at0 b j=y) (h0:0≤o∧o<1000000000) (h1:0≤y∧y<1000000000) (hs:x*y+o+c=s) (k:Nat) :
 whole_Whole_Mul.l1 (k+1) out (i:Int) x c a la (i:Int) b (b.length:Int) (j:Int) m1 l1 m2 b =
  whole_Whole_Mul.l1 k (out.set (i+j) (s%1000000000)) (i:Int) x (s/1000000000) a la (i:Int) b (b.length:Int) ((j+1:Nat):Int) m1 l1 m2 b:=by
 have p0:0≤x*y:=Int.mul_nonneg hx.1 h1.1
 have p1:x*y≤999999999*999999999:=Int.mul_le_mul (by omega) (by omega) h1.1 (by decide)
 obtain⟨p,hp⟩:∃p,x*y=p:=⟨_,rfl⟩
 rw [hp]at p0 p1 hs
 have s0:0≤s:=by omega
 have s1:s≤2000000000000000000:=by omega
 exact mul_l1_aux i j x c s y o p ho hy hp hs (by omega) (by omega) (by omega) (by omega) (by rw [w64 (by omega) (by omega)];omega) (wu64 (by omega) (by omega)) (wu64 (by omega) (by omega)) (wu64 (by omega) (by omega)) (wu64 (by omega) (by omega)) (wu64 (by omega) (by omega)) (wu64 (by omega) (by omega))
  (quo_rem s s0 s1) (by rw [w64 (by omega) (by omega)];omega) k
theorem mul_row_val{b out:List Int}(i j:Nat)(x c s:Int)(hij:i+j<out.length)(hs:s=x*at0 b j+at0 out (i+j)+c)(hj:j<b.length) :
 val B (out.set (i+j) (s%1000000000))+B^(i+(j+1))*(s/1000000000)+B^i*x*(B^(j+1)*val B (b.drop (j+1)))=val B out+B^(i+j)*c+B^i*x*(B^j*val B (b.drop j)):=by
 have db:b.drop j=at0 b j :: b.drop (j+1):=by rw [List.drop_eq_getElem_cons (by omega),at0_lt (by omega)]
 rw [val_set _ _ _ _ (by omega),db]
 simp only [val]
 rw [show i+(j+1)=i+j+1 by omega,Int.pow_succ,Int.pow_succ,Int.pow_add]
 have e:s%1000000000=s-1000000000*(s/1000000000):=by omega
 rw [e]
 generalize s/1000000000=q at *
 generalize at0 out (i+j)=oo at *
 generalize at0 b j=bb at *
 subst hs
 generalize B^i=P at *
 generalize B^j=R at *
 generalize val B (b.drop (j+1))=D at *
 generalize val B out=V at *
 clear e db
 show V+P*R*(x*bb+oo+c-1000000000*q-oo)+P*R*1000000000*q+P*x*(R*1000000000*D)=V+P*R*c+P*x*(R*(bb+1000000000*D))
 grind
theorem mul_l1{S:Bool×List Int→Prop}{a b:List Int}{la:Int}{m1 m2:Bool}{l1:List Int}(hb:Dg B b)(L i:Nat)(x:Int)(hx:0≤x∧x<1000000000)(hL:L≤3000000000000)(T:Int)(hi:i+b.length<L)
 (hT:T<B^L) (next:∀out:List Int,Dg B out→out.length=L→val B out=T→EvS (fun k=>whole_Whole_Mul.l0 k out a la (wrap64 ((i:Int)+1)) m1 l1 m2 b) S) :
 ∀(d j:Nat) (out:List Int) (c:Int),j+d=b.length→Dg B out→out.length=L→0≤c∧c<1000000000→val B out+B^(i+j)*c+B^i*x*(B^j*val B (b.drop j))=T →
  EvS (fun k=>whole_Whole_Mul.l1 k out (i:Int) x c a la (i:Int) b (b.length:Int) (j:Int) m1 l1 m2 b) S
 | 0,j,out,c,hd,hout,ho,hc,hv=>by
  obtain rfl:j=b.length:=by omega
  rw [List.drop_of_length_le (by omega)]at hv;refine EvS.step (mul_l2 L hL T hT next (L+1-(i+b.length)) (i+b.length) out c (by omega) hout ho (by omega) (by simpa [val]using hv)) (fun k=>?_);simp only [whole_Whole_Mul.l1];rw [if_neg (by omega),w64 (by omega) (by omega)];congr 1
 | d+1,j,out,c,hd,hout,ho,hc,hv=>by
  have h0:=dgbd hout (i+j);have h1:=dgbd hb j;have p0:0≤x*at0 b j:=Int.mul_nonneg hx.1 h1.1;have p1:x*at0 b j≤999999999*999999999:=Int.mul_le_mul (by omega) (by omega) h1.1 (by decide);obtain⟨s,hs⟩:∃s,s=x*at0 b j+at0 out (i+j)+c:=⟨_,rfl⟩;have b1:0≤s/1000000000∧s/1000000000<1000000000:=by omega
  have b2:0≤s%1000000000∧s%1000000000<1000000000:=by omega
  clear p0 p1;refine EvS.step (mul_l1 hb L i x hx hL T hi hT next d (j+1) (out.set (i+j) (s%1000000000)) (s/1000000000) (by omega) (hout.set _ b2) (by simp [ho]) b1 ?_) (fun k=>?_)
  · rw [←hv];exact mul_row_val i j x c s (by omega) hs (by omega)
  · exact mul_l1_step i j x c s _ _ hx hc (by omega) (by omega) (by omega) rfl rfl h0 h1 hs.symm k
theorem mul_l0{a b:List Int}(ha:Dg B a)(hb:Dg B b)(m1 m2:Bool)(hla:a.length≤400000000000)(hlb:b.length≤400000000000):∀(d i:Nat) (out:List Int),i+d=a.length→Dg B out→out.length=a.length+b.length+1→val B out=val B (a.take i)*val B b →
 EvS (fun k=>whole_Whole_Mul.l0 k out a (a.length:Int) (i:Int) m1 a m2 b) (fun r=>Rep B r.2 (val B a*val B b)∧r.1=((m1 !=m2)&&decide (val B a*val B b≠0)))
 | 0,i,out,hd,hout,ho,hv=>by
  obtain rfl:i=a.length:=by omega
  rw [List.take_of_length_le (Nat.le_refl _)]at hv;refine EvS.step (h:=fun k=>(whole_signed.f k out (m1 !=m2)).bind fun bt165=>(some (bt165.1,bt165.2))) ((EvS.bind (signed_rep (m1 !=m2) (by omega) hout hv) (fun r hr=>EvS.pure (r:=(r.1,r.2)) hr)).congr (fun k=>rfl)) (fun k=>?_);simp only [whole_Whole_Mul.l0];rw [if_neg (by omega)]
 | d+1,i,out,hd,hout,ho,hv=>by
  have hB:(0:Int)<B:=by decide
  have h0:=dgbd ha i;have ea:=val_take_succ B a i;have T1:val B (a.take (i+1))*val B b<B^(a.length+b.length+1):=by
   have t1:=val_lt hB (ha.take (i+1));have t0:=val_nonneg hB (ha.take (i+1));have u1:=val_lt hB hb;have u0:=val_nonneg hB hb;rw [List.length_take]at t1;have t2:B^(min (i+1) a.length)≤B^a.length:=pow_mono (by decide) (by omega);have t3:val B (a.take (i+1))*val B b≤B^a.length*val B b:=Int.mul_le_mul_of_nonneg_right (by omega) u0;have t4:B^a.length*(val B b+1)≤B^a.length*B^b.length:=Int.mul_le_mul_of_nonneg_left (by omega) (Int.le_of_lt (pow_pos' hB _));rw [←Int.pow_add]at t4;have t5:B^(a.length+b.length)≤B^(a.length+b.length+1):=pow_mono (by decide) (by omega);have t6:B^a.length*(val B b+1)=B^a.length*val B b+B^a.length:=by grind
   have t7:=pow_pos' hB a.length;omega
  refine EvS.step (mul_l1 (S:=fun r=>Rep B r.2 (val B a*val B b)∧r.1=((m1 !=m2)&&decide (val B a*val B b≠0))) (a:=a) (la:=(a.length:Int)) (m1:=m1) (m2:=m2) (l1:=a) hb (a.length+b.length+1) i (at0 a i) h0 (by omega) (val B (a.take (i+1))*val B b) (by omega) T1 (fun out' h1 h2 h3=>?_) b.length 0 out 0 (by omega) hout ho (by omega) ?_) (fun k=>?_)
  · have:=mul_l0 ha hb m1 m2 hla hlb d (i+1) out' (by omega) h1 h2 h3;refine this.congr (fun k=>?_);rw [w64 (by omega) (by omega)];rfl
  · rw [hv,ea];simp only [List.drop_zero,Int.pow_zero,Int.mul_zero];generalize B^i=P at *
    grind
  · simp only [whole_Whole_Mul.l0,rd_nat];rw [if_pos (by omega),if_pos (by omega),if_pos (by omega)];rfl
theorem mul_rep{a b:List Int}{n m:Int}(ha:Rep B a n)(hb:Rep B b m)(m1 m2:Bool)(hla:a.length≤400000000000)(hlb:b.length≤400000000000) :
 EvS (fun k=>whole_Whole_Mul.f k m1 a m2 b) (fun r=>Rep B r.2 (n*m)∧r.1=((m1 !=m2)&&decide (n*m≠0))):=by
 obtain⟨da,na,rfl⟩:=ha
 obtain⟨db,nb,rfl⟩:=hb
 refine(mul_l0 da db m1 m2 hla hlb a.length 0 (List.replicate (a.length+b.length+1) 0) (by omega) (Dg.replicate (by decide) _) (by simp) (by rw [val_replicate];simp [val])).congr (fun k=>?_)
 have e:wrap64 ((wrap64 ((a.length:Int)+(b.length:Int)))+1)=((a.length+b.length+1:Nat):Int):=by
  rw [w64 (x:=(a.length:Int)+(b.length:Int)) (by omega) (by omega),w64 (by omega) (by omega)];omega
 simp only [whole_Whole_Mul.f,e]
 rw [if_pos (by omega),if_pos (by omega),Int.toNat_natCast]
 rfl
theorem guess_lt{a b:List Int}{n m:Int}(ha:Rep B a n)(hb:Rep B b m)(hm:0<m)(hlb:b.length≤20000000000010)(hab:a.length≤b.length+1)(hq:n<B*m) :
 ∃q,whole_guess.f a b=some q∧0≤q∧q<1000000000∧n<(q+1)*m:=by
 have hB:(0:Int)<B:=by decide
 obtain⟨da,na,rfl⟩:=ha
 obtain⟨db,nb,rfl⟩:=hb
 have hbl:b≠ []:=by intro e;subst e;simp [val]at hm
 have hbp:0<b.length:=List.length_pos_iff.2 hbl
 obtain⟨t,ht⟩:∃t,b.length=t+1:=⟨b.length-1,by omega⟩
 by_cases hlt:a.length<b.length
 · refine⟨0,by simp only [whole_guess.f];rw [if_pos (by omega)],by omega,by omega,?_⟩;have h1:=val_lt hB da;have h2:=val_ge_of_Nm hB db nb hbl;have h3:B^a.length≤B^(b.length-1):=pow_mono (by decide) (by omega);omega
 · -- the highest words
   obtain⟨bt,hbt⟩:∃x,at0 b t=x:=⟨_,rfl⟩;have hbtb:=dgbd db t;rw [hbt]at hbtb;have hbt0:0<bt:=by
    have:b.getLast?=some bt:=by rw [List.getLast?_eq_getElem?,ht,Nat.add_sub_cancel,←hbt,at0_lt (by omega),List.getElem?_eq_getElem]
    unfold Nm at nb
    rw [this]at nb;have:bt≠0:=fun e=>nb (by rw [e])
    omega
   have vb:B^t*bt≤val B b:=by
    have h1:=val_take_succ B b t;rw [List.take_of_length_le (by omega),hbt]at h1;have h2:=val_nonneg hB (db.take t);omega
   obtain⟨hi,hhi⟩:∃x,x=at0 a t+B*at0 a (t+1):=⟨_,rfl⟩;have h0:=dgbd da t;have h1:=dgbd da (t+1);have hhi0:0≤hi:=by rw [hhi];show 0≤at0 a t+1000000000*at0 a (t+1);omega
   have hhi1:hi<1000000000000000000:=by rw [hhi];show at0 a t+1000000000*at0 a (t+1)<_;omega
   have va:val B a<B^t*(hi+1):=by
    have e1:=val_take_succ B a t;have e2:=val_take_succ B a (t+1);rw [List.take_of_length_le (by omega)]at e2;have e3:=val_lt hB (da.take t);have e4:B^(a.take t).length≤B^t:=pow_mono (by decide) (by simp;omega);rw [e2,e1,Int.pow_succ,hhi];generalize B^t=P at *
    have:P*(at0 a t+B*at0 a (t+1)+1)=P*at0 a t+P*B*at0 a (t+1)+P:=by grind
    omega
   have key:∀q:Int,hi<(q+1)*bt→0≤q→val B a<(q+1)*val B b:=by
    intro q h2 h3;have p0:=pow_pos' hB t;have c1:B^t*(hi+1)≤B^t*((q+1)*bt):=Int.mul_le_mul_of_nonneg_left (by omega) (by omega);have c2:(q+1)*(B^t*bt)≤(q+1)*val B b:=Int.mul_le_mul_of_nonneg_left vb (by omega);have c3:B^t*((q+1)*bt)=(q+1)*(B^t*bt):=by grind
    omega
   have q0:0≤hi/bt:=Int.ediv_nonneg hhi0 (by omega);have q1:hi<(hi/bt+1)*bt:=by
    have:=Int.lt_ediv_add_one_mul_self hi hbt0;exact this
   have q2:hi/bt≤hi:=Int.ediv_le_self _ hhi0;have hmn:mn (hi/bt) 999999999%4294967296=mn (hi/bt) 999999999:=by unfold mn;split <;> omega
   refine⟨mn (hi/bt) 999999999,?_,by unfold mn;split <;> omega,by unfold mn;split <;> omega,?_⟩
   · have ew:wrap64 ((b.length:Int)-1)=(t:Int):=by rw [w64 (by omega) (by omega)];omega
     have el:(b.length:Int)=((t+1:Nat):Int):=by omega
     have u1:IntKind.u64.wrap bt=bt:=wu64 (by omega) (by omega);have u2:IntKind.u64.wrap (at0 a t)=at0 a t:=wu64 (by omega) (by omega);have u3:IntKind.u64.wrap hi=hi:=wu64 (by omega) (by omega);have u4:IntKind.u64.wrap (hi/bt)=hi/bt:=wu64 (by omega) (by omega);have g1:¬(a.length:Int)<((t+1:Nat):Int):=by clear ew u1 u2 u3 u4;omega
     have g2:(0:Int)≤(t:Int):=by clear ew u1 u2 u3 u4;omega
     have g3:(t:Int)<(a.length:Int):=by clear ew u1 u2 u3 u4;omega
     have g5:(0:Int)≤((t+1:Nat):Int):=by clear ew u1 u2 u3 u4;omega
     have g7:(t:Int)<((t+1:Nat):Int):=by clear ew u1 u2 u3 u4;omega
     have g8:¬bt=0:=by clear ew u1 u2 u3 u4;omega
     have td:Int.tdiv hi bt=hi/bt:=Int.tdiv_eq_ediv_of_nonneg hhi0;by_cases hgt:b.length<a.length
     · have u5:IntKind.u64.wrap (at0 a (t+1))=at0 a (t+1):=by clear ew u1 u2 u3 u4;exact wu64 (by omega) (by omega)
       have u6:IntKind.u64.wrap (at0 a (t+1)*1000000000)=at0 a (t+1)*1000000000:=by clear ew u1 u2 u3 u4 u5;exact wu64 (by omega) (by omega)
       have u7:at0 a t+at0 a (t+1)*1000000000=hi:=by rw [hhi];show _=at0 a t+1000000000*at0 a (t+1);rw [Int.mul_comm 1000000000]
       have g4:(a.length:Int)>((t+1:Nat):Int):=by clear ew u1 u2 u3 u4 u5 u6 u7;omega
       simp only [whole_guess.f,ew];simp only [el,rd_nat,hbt,u1,u2,u5,u6,u7,u3,td,u4,hmn];rw [if_neg g1,if_pos g2,if_pos g3,if_pos g4,if_pos g5,if_pos g4,if_pos g7,if_neg g8]
     · have hz:at0 a (t+1)=0:=at0_ge (by clear ew u1 u2 u3 u4;omega);have u7:at0 a t=hi:=by rw [hhi,hz];simp
       have g4:¬(a.length:Int)>((t+1:Nat):Int):=by clear ew u1 u2 u3 u4 u7;omega
       simp only [whole_guess.f,ew];simp only [el,rd_nat,hbt,u1,u7,u3,td,u4,hmn];rw [if_neg g1,if_pos g2,if_pos g3,if_neg g4,if_pos g7,if_neg g8]
   · unfold mn
     split
     · have:(999999999+1:Int)*val B b=B*val B b:=rfl;rw [this];exact hq
     · exact key _ q1 q0
theorem reverse_l0(n:Nat)(hn:n≤20000000000010):∀(d i:Nat) (x:List Int),x.length=n→n≤2*i+d→2*i≤n →
 EvS (fun k=>slices_Reverse_uint32_uint32.l0 k x (i:Int) ((n:Int)-1-i)) (fun r=>r.length=n∧∀p,p<n→at0 r p=if i≤p∧p+i<n then at0 x (n-1-p)else at0 x p)
 | 0,i,x,hx,hd,hi=>by
  refine EvS.done (r:=x) (fun k=>by simp only [slices_Reverse_uint32_uint32.l0];rw [if_neg (by omega)]) ⟨hx,fun p hp=>?_⟩;rw [if_neg (by omega)]
 | d+1,i,x,hx,hd,hi=>by
  by_cases hlt:i+i+1<n
  · obtain⟨j,hj⟩:∃j:Nat,j+i+1=n:=⟨n-1-i,by omega⟩;have ej:(n:Int)-1-i=(j:Int):=by omega
    refine EvS.step ((reverse_l0 n hn d (i+1) ((x.set i (at0 x j)).set j (at0 x i)) (by simp [hx]) (by omega) (by omega)).mono ?_) (fun k=>?_)
    · rintro r ⟨h1,h2⟩;refine⟨h1,fun p hp=>?_⟩;rw [h2 p hp];have at_set:∀(l:List Int) (u v:Nat) (y:Int),u<l.length→at0 (l.set u y) v=if u=v then y else at0 l v:=by
       intro l u v y hu;unfold at0
       rw [List.getD_eq_getElem?_getD,List.getElem?_set,List.getD_eq_getElem?_getD];split
       · simp
       · rfl
      by_cases c1:i+1≤p∧p+(i+1)<n
      · rw [if_pos c1,if_pos (by omega),at_set _ _ _ _ (by simp;omega),if_neg (by omega),at_set _ _ _ _ (by omega),if_neg (by omega)]
      · rw [if_neg c1,at_set _ _ _ _ (by simp;omega),at_set _ _ _ _ (by omega)];by_cases c2:j=p
        · rw [if_pos c2,if_pos (by omega)];congr 1;omega
        · rw [if_neg c2];by_cases c3:i=p
          · rw [if_pos c3,if_pos (by omega)];congr 1;omega
          · rw [if_neg c3,if_neg (by omega)]
    · rw [ej];simp only [slices_Reverse_uint32_uint32.l0,rd_nat];rw [if_pos (by omega),if_pos (by omega),if_pos (by omega),if_pos (by omega),if_pos (by omega),Int.toNat_natCast,Int.toNat_natCast];congr 1
      · exact w64 (by omega) (by omega)
      · rw [w64 (by omega) (by omega)];omega
  · refine EvS.done (r:=x) (fun k=>by simp only [slices_Reverse_uint32_uint32.l0];rw [if_neg (by omega)]) ⟨hx,fun p hp=>?_⟩;split
    · congr 1;omega
    · rfl
theorem reverse_rep(l:List Int)(hl:l.length≤20000000000010):EvS (fun k=>slices_Reverse_uint32_uint32.f k l) (fun r=>r=l.reverse):=by
 refine((reverse_l0 l.length hl l.length 0 l rfl (by omega) (by omega)).mono ?_).congr (fun k=>?_)
 · rintro r ⟨h1,h2⟩;refine List.ext_getElem (by simp [h1]) (fun p h3 h4=>?_);have:=h2 p (by omega);rw [if_pos (by omega),at0_lt h3,at0_lt (by omega)]at this;rw [this,List.getElem_reverse]
 · simp only [slices_Reverse_uint32_uint32.f];rw [w64 (by omega) (by omega)];congr 1
   omega
end Go.Proofs.YtpdghgfbfmaplaaGreatDoor.WhC
end
section
set_option linter.unusedVariables false
namespace Go.Proofs.YtpdghgfbfmaplaaGreatDoor.Wh
open Go.RowKit Go.Proofs.YtpdghgfbfmaplaaGreatDoorW.PrintWords Go.Proofs.YtpdghgfbfmaplaaGreatDoor.Num Go.Proofs.YtpdghgfbfmaplaaGreatDoor.PWhole Go.Proofs.YtpdghgfbfmaplaaGreatDoor.WhC
def Sl(P:Nat→Prop)(w:World)(v:Value)(l:List Int):Prop:=Kd.V (Kd.int .u32) 95 w 0 P v l
structure WV where
 b:Bool
 A:Option Addr
 n:Nat
 c:Nat
def IsN(P:Nat→Prop)(K:Nat)(w:World)(A:Option Addr)(n c:Nat)(z:Int):Prop :=
 ∃l:List Int,l.length=n∧Sl P w (.slice A n c) l∧Rep B l z∧z.natAbs<1000000000^K
def IsW(P:Nat→Prop)(K:Nat)(w:World)(x:WV)(z:Int):Prop:=IsN P K w x.A x.n x.c (z.natAbs:Int)∧x.b=decide (z<0)
section
variable {P P':Nat→Prop} {K K':Nat} {w w1:World} {A:Option Addr} {n c:Nat} {z:Int} {x:WV} {v:Value} {l:List Int}
theorem Sl.step(h:Sl P w v l)(hm:∀k,P k→k<w.heap.size→w1.heap[k]?=w.heap[k]?):Sl P w1 v l:=Kd.V_step h hm
theorem Sl.below(h:Sl P w v l)(hb:Below w.heap.size w w1):Sl P w1 v l:=Kd.V_below h hb
theorem Sl.mono(h:Sl P w v l)(hP:∀k,P k→P' k):Sl P' w v l:=Kd.V_mono h hP
theorem IsN.step(h:IsN P K w A n c z)(hm:∀k,P k→k<w.heap.size→w1.heap[k]?=w.heap[k]?):IsN P K w1 A n c z:=by
 obtain⟨l,h1,h2,h3,h4⟩:=h;exact⟨l,h1,h2.step hm,h3,h4⟩
theorem IsN.below(h:IsN P K w A n c z)(hb:Below w.heap.size w w1):IsN P K w1 A n c z:=by
 obtain⟨l,h1,h2,h3,h4⟩:=h;exact⟨l,h1,h2.below hb,h3,h4⟩
theorem IsN.mono(h:IsN P K w A n c z)(hP:∀k,P k→P' k):IsN P' K w A n c z:=by
 obtain⟨l,h1,h2,h3,h4⟩:=h;exact⟨l,h1,h2.mono hP,h3,h4⟩
theorem IsN.wide(h:IsN P K w A n c z)(hK:K≤K'):IsN P K' w A n c z:=by
 obtain⟨l,h1,h2,h3,h4⟩:=h;exact⟨l,h1,h2,h3,Nat.lt_of_lt_of_le h4 (Nat.pow_le_pow_right (by decide) hK)⟩
theorem IsN.tight(h:IsN P K w A n c z)(hK:z.natAbs<1000000000^K'):IsN P K' w A n c z:=by
 obtain⟨l,h1,h2,h3,h4⟩:=h;exact⟨l,h1,h2,h3,hK⟩
theorem IsN.bd(h:IsN P K w A n c z):z.natAbs<1000000000^K:=by obtain⟨l,h1,h2,h3,h4⟩:=h;exact h4
theorem IsN.nonneg(h:IsN P K w A n c z):0≤z:=by obtain⟨l,h1,h2,h3,h4⟩:=h;exact h3.nonneg (by decide)
theorem IsW.step(h:IsW P K w x z)(hm:∀k,P k→k<w.heap.size→w1.heap[k]?=w.heap[k]?):IsW P K w1 x z:=⟨h.1.step hm,h.2⟩
theorem IsW.below(h:IsW P K w x z)(hb:Below w.heap.size w w1):IsW P K w1 x z:=⟨h.1.below hb,h.2⟩
theorem IsW.mono(h:IsW P K w x z)(hP:∀k,P k→P' k):IsW P' K w x z:=⟨h.1.mono hP,h.2⟩
theorem IsW.wide(h:IsW P K w x z)(hK:K≤K'):IsW P K' w x z:=⟨h.1.wide hK,h.2⟩
theorem IsW.tight(h:IsW P K w x z)(hK:z.natAbs<1000000000^K'):IsW P K' w x z:=⟨h.1.tight (by simpa using hK),h.2⟩
theorem IsW.bd(h:IsW P K w x z):z.natAbs<1000000000^K:=by simpa using h.1.bd
end
theorem rep_len'{l:List Int}{z:Int}{K:Nat}(h:Rep B l z)(hK:z.natAbs<1000000000^K):l.length≤K:=by
 by_cases hl:l= []
 · subst hl;simp
 · have h1:=val_ge_of_Nm (by decide:(0:Int)<B) h.1 h.2.1 hl;rw [h.2.2]at h1;have h3:B^(l.length-1)<B^K:=by
    have h4:((z.natAbs:Int))<((1000000000^K:Nat):Int):=by exact_mod_cast hK
    rw [Int.natCast_pow]at h4;have h5:((1000000000:Nat):Int)^K=B^K:=rfl;have h0:=h.nonneg (by decide);omega
   rcases Nat.lt_or_ge (l.length-1) K with h4|h4
   · omega
   · exfalso
     have:=pow_mono (B:=B) (by decide) h4;omega
theorem rep_len{l:List Int}{z:Int}{K:Nat}(h:Rep B l z)(hK:z.natAbs<1000000000^K):l.length≤K+1:=Nat.le_succ_of_le (rep_len' h hK)
section
variable {P:Nat→Prop} {K K':Nat} {w:World}
theorem c_Of(a0:Int)(h1: -9223372036854775808≤a0)(h2:a0≤9223372036854775807)(hP:∀k,w.heap.size≤k→P k) :
 Calls Tryz.prog 59 #[.int .i64 a0] w fun e w'=>∃x:WV,e=.returned (.agg #[.bool x.b,.slice x.A x.n x.c])∧IsW P 3 w' x a0∧Below w.heap.size w w':=by
 obtain⟨k,⟨r1,r2⟩,hk,e1,e2⟩:=(of_rep a0 h1 h2).get
 refine(whole_Of.calls k a0 r1 r2 w hk).mono ?_
 rintro e w' ⟨v,rfl,hv,hb⟩
 have hv2:=Kd.R_bound hv
 obtain⟨A,c,rfl⟩:=Kd.R_slice hv
 refine⟨⟨r1,A,r2.length,c⟩,rfl,⟨⟨r2,rfl,Kd.V_mono (Kd.R_V hv2) (fun k hk=>hP k hk.2.1),e2,?_⟩,e1⟩,hb⟩
 simp only [Int.natAbs_natCast]
 have:(1000000000:Nat)^3=1000000000000000000000000000:=by decide
 omega
theorem c_Zero{x:WV}{z:Int}(hx:IsW P K w x z):Calls Tryz.prog 105 #[.agg #[.bool x.b,.slice x.A x.n x.c]] w fun e w'=>e=.returned (.bool (decide (z=0)))∧Below w.heap.size w w':=by
 obtain⟨b,A,n,c⟩:=x
 obtain⟨⟨l,rfl,h2,h3,h4⟩,h5⟩:=hx
 obtain⟨_,hc,hr⟩:=Kd.V_reads' h2
 refine(whole_Whole_Zero.calls b A c l (decide (z=0)) w hr hc ?_)
 have:=h3.nil_iff (by decide)
 simp only [whole_Whole_Zero.f]
 congr 1
 cases l with
 | nil=>simp at this ⊢;exact this
 | cons y ys =>
  have hz:z≠0:=by simpa using this
  rw [Bool.eq_iff_iff];simp [hz]
  omega
theorem c_Sign{x:WV}{z:Int}(hx:IsW P K w x z):Calls Tryz.prog 90 #[.agg #[.bool x.b,.slice x.A x.n x.c]] w fun e w'=>e=.returned (.int .i64 z.sign)∧Below w.heap.size w w':=by
 obtain⟨b,A,n,c⟩:=x
 obtain⟨⟨l,rfl,h2,h3,h4⟩,h5⟩:=hx
 obtain⟨_,hc,hr⟩:=Kd.V_reads' h2
 refine(whole_Whole_Sign.calls b A c l z.sign w hr hc ?_)
 have:=h3.nil_iff (by decide)
 simp only [whole_Whole_Sign.f,whole_Whole_Zero.f,Option.bind_some]
 simp only at h5
 subst h5
 cases l with
 | nil=>simp at this;subst this;rfl
 | cons y ys =>
  have hz:z≠0:=by simpa using this
  rw [if_neg (by simp;omega)];by_cases hn:z<0
  · rw [if_pos (by simpa using hn),Int.sign_eq_neg_one_of_neg hn]
  · rw [if_neg (by simpa using hn),Int.sign_eq_one_of_pos (by omega)]
theorem c_One{x:WV}{z:Int}(hx:IsW P K w x z):Calls Tryz.prog 99 #[.agg #[.bool x.b,.slice x.A x.n x.c]] w fun e w'=>e=.returned (.bool (decide (z=1)))∧Below w.heap.size w w':=by
 obtain⟨b,A,n,c⟩:=x
 obtain⟨⟨l,rfl,h2,h3,h4⟩,h5⟩:=hx
 obtain⟨_,hc,hr⟩:=Kd.V_reads' h2
 refine(whole_Whole_One.calls b A c l (decide (z=1)) w hr hc ?_)
 simp only at h5
 subst h5
 simp only [whole_Whole_One.f]
 have rep1:Rep B [1] 1:=⟨by intro y hy;simp at hy;subst hy;exact⟨by decide,by decide⟩,by simp [Nm],by simp [val]⟩
 by_cases hn:z<0
 · rw [if_pos (by simpa using hn)];congr 1;simp;omega
 · rw [if_neg (by simpa using hn)];by_cases h1:z=1
   · subst h1;obtain rfl:l= [1]:=Rep.inj (by decide) h3 rep1;rfl
   · by_cases hl:(l.length:Int)=1
     · rw [if_pos hl,if_pos (by omega)];congr 1
       match l,hl with
       | [y],_ =>
        have:=h3.2.2;simp [val]at this
        have e:rd [y] 0=y:=rfl;rw [e];simp [h1]
        omega
     · rw [if_neg hl];simp [h1]
theorem c_Neg{x:WV}{z:Int}(hx:IsW P K w x z)(hK:K≤20000000000000)(hP:∀k,w.heap.size≤k→P k) :
 Calls Tryz.prog 93 #[.agg #[.bool x.b,.slice x.A x.n x.c]] w fun e w'=>∃y:WV,e=.returned (.agg #[.bool y.b,.slice y.A y.n y.c])∧IsW P K w' y (-z)∧Below w.heap.size w w':=by
 obtain⟨b,A,n,c⟩:=x
 obtain⟨⟨l,rfl,h2,h3,h4⟩,h5⟩:=hx
 have hl:=rep_len h3 h4
 have hs:=signed_rep (!b) (show l.length≤20000000000010 by omega) h3.1 h3.2.2
 obtain⟨k,⟨r1,r2⟩,hk,e1,e2⟩:=hs.get
 refine(whole_Whole_Neg.calls k b P A c l r1 r2 w h2 (by simp only [whole_Whole_Neg.f,hk,Option.bind_some])).mono ?_
 rintro e w' ⟨v,rfl,hv,hb⟩
 obtain⟨A',c',rfl⟩:=Kd.V_slice hv
 refine⟨⟨r1,A',r2.length,c'⟩,rfl,⟨⟨r2,rfl,Kd.V_mono hv (fun k hk=>hk.elim id (hP k)),by rw [Int.natAbs_neg];exact e1,by simpa using h4⟩,?_⟩,hb⟩
 simp only at e2 h5 ⊢
 rw [e2,h5]
 rw [Bool.eq_iff_iff]
 simp
 omega
theorem c_Mul{x y:WV}{z u:Int}(hx:IsW P K w x z)(hy:IsW P K' w y u)(hK:K≤100000000000)(hK':K'≤100000000000)(hP:∀k,w.heap.size≤k→P k) :
 Calls Tryz.prog 80 #[.agg #[.bool x.b,.slice x.A x.n x.c],.agg #[.bool y.b,.slice y.A y.n y.c]] w fun e w'=>∃r:WV,e=.returned (.agg #[.bool r.b,.slice r.A r.n r.c])∧IsW P (K+K') w' r (z*u)∧Below w.heap.size w w':=by
 obtain⟨b,A,n,c⟩:=x
 obtain⟨⟨l,rfl,h2,h3,h4⟩,h5⟩:=hx
 obtain⟨b',A',n',c'⟩:=y
 obtain⟨⟨l',rfl,h2',h3',h4'⟩,h5'⟩:=hy
 have hl:=rep_len h3 h4
 have hl':=rep_len h3' h4'
 obtain⟨_,hc,hr⟩:=Kd.V_reads' h2
 obtain⟨_,hc',hr'⟩:=Kd.V_reads' h2'
 obtain⟨k,⟨r1,r2⟩,hk,e1,e2⟩:=(mul_rep h3 h3' b b' (by omega) (by omega)).get
 refine(whole_Whole_Mul.calls k b A c l b' A' c' l' r1 r2 w hr hc hr' hc' hk).mono ?_
 rintro e w' ⟨v,rfl,hv,hb⟩
 obtain⟨A2,c2,rfl⟩:=Kd.V_slice hv
 simp only [Int.natAbs_natCast]at h4 h4'
 refine⟨⟨r1,A2,r2.length,c2⟩,rfl,⟨⟨r2,rfl,Kd.V_mono hv (fun k hk=>hP k hk),by rw [Int.natAbs_mul];exact_mod_cast e1,?_⟩,?_⟩,hb⟩
 · simp only [Int.natAbs_natCast,Int.natAbs_mul];rw [Nat.pow_add];rcases Nat.eq_zero_or_pos u.natAbs with h0|h0
   · rw [h0,Nat.mul_zero];exact Nat.mul_pos (Nat.pow_pos (by decide)) (Nat.pow_pos (by decide))
   · exact Nat.mul_lt_mul'' h4 h4'
 · simp only at e2 h5 h5' ⊢
   rw [e2,h5,h5',Bool.eq_iff_iff];have:(z.natAbs:Int)*(u.natAbs:Int)=((z*u).natAbs:Int):=by rw [Int.natAbs_mul];simp
   rw [this];simp only [Bool.and_eq_true,bne_iff_ne,ne_eq,decide_eq_true_eq,decide_eq_decide,Int.natCast_eq_zero,Int.natAbs_eq_zero];have hm:z*u<0↔(z<0∧0<u)∨(0<z∧u<0):=by
    rcases Int.lt_trichotomy z 0 with h1|h1|h1 <;> rcases Int.lt_trichotomy u 0 with h2|h2|h2
    · have:=Int.mul_pos_of_neg_of_neg h1 h2;omega
    · subst h2;simp
    · have:=Int.mul_neg_of_neg_of_pos h1 h2;omega
    · subst h1;simp
    · subst h1;simp
    · subst h1;simp
    · have:=Int.mul_neg_of_pos_of_neg h1 h2;omega
    · subst h2;simp
    · have:=Int.mul_pos h1 h2;omega
   rw [Int.mul_eq_zero,hm];omega
end
end Go.Proofs.YtpdghgfbfmaplaaGreatDoor.Wh
end
section
set_option linter.unusedVariables false
namespace Go.Proofs.YtpdghgfbfmaplaaGreatDoor.Wh
open Go.RowKit Go.Proofs.YtpdghgfbfmaplaaGreatDoorW.PrintWords Go.Proofs.YtpdghgfbfmaplaaGreatDoor.Num Go.Proofs.YtpdghgfbfmaplaaGreatDoor.PWhole Go.Proofs.YtpdghgfbfmaplaaGreatDoor.WhC
theorem rdg{l:List Int}{n:Int}(h:Rep B l n):Dg B l:=h.1
theorem rval{l:List Int}{n:Int}(h:Rep B l n):val B l=n:=h.2.2
theorem bl_alloc{w W:World}(h:Below w.heap.size w W)(o:Obj):Below w.heap.size w (W.alloc o):=h.alloc h.size o
theorem bl_drew{w W:World}(h:Below w.heap.size w W):Below w.heap.size w W.drew:=h.drew
theorem bl_call{w W W1:World}(h:Below w.heap.size w W)(k:Below W.heap.size W W1):Below w.heap.size w W1:=h.trans (k.mono h.size)
theorem bl_set{w W:World}(h:Below w.heap.size w W){p:Addr}(hp:w.heap.size≤p.block)(u:Value):Below w.heap.size w (W.setCell p u):=h.setCell hp u
theorem arq{p:Prop}(h:p:=by first|(simp;done)|(simp;omega)|omega):p:=h
theorem blq{p:Prop}(h:p:=by repeat (first|with_reducible exact Below.refl _ _|with_reducible refine bl_set ?_ (by first|(simp;done)|(simp;omega)|omega) _|with_reducible refine bl_alloc ?_ _|with_reducible refine bl_drew ?_|with_reducible refine bl_call ?_ (by assumption))):p:=h
theorem blo{p:Prop}(h:p:=by repeat (first|exact Below.refl _ _|refine bl_alloc ?_ _|refine bl_drew ?_|refine bl_set ?_ (by first|(simp;done)|(simp;omega)|omega) _|refine bl_call ?_ (by with_reducible assumption))):p:=h
section
variable {P:Nat→Prop} {K K':Nat} {w:World} {A A':Option Addr} {c c':Nat} {l l':List Int}
theorem c_plain(hs:Sl P w (.slice A l.length c) l)(hl:l.length≤20000000000010)(hd:Dg B l)(hP:∀k,w.heap.size≤k→P k) :
 Calls Tryz.prog 130 #[.slice A l.length c] w fun e w'=>∃(A1:Option Addr) (c1:Nat) (r:List Int),e=.returned (.slice A1 r.length c1)∧Sl P w' (.slice A1 r.length c1) r∧Rep B r (val B l)∧Below w.heap.size w w':=by
 obtain⟨k,r,hk,hr⟩:=(plain_rep hl hd rfl).get
 refine(whole_plain.calls k P A c l r w hs hk).mono ?_
 rintro e w' ⟨v,rfl,hv,hb⟩
 obtain⟨A1,c1,rfl⟩:=Kd.V_slice hv
 exact⟨A1,c1,r,rfl,Kd.V_mono hv (fun k hk=>hk.elim id (hP k)),hr,hb⟩
theorem c_signed(m:Bool)(hs:Sl P w (.slice A l.length c) l)(hl:l.length≤20000000000010)(hd:Dg B l)(z:Int)(hz:(z.natAbs:Int)=val B l)(hm:m=decide (z<0)∨z=0)(hK:z.natAbs<1000000000^K)(hP:∀k,w.heap.size≤k→P k) :
 Calls Tryz.prog 112 #[.slice A l.length c,.bool m] w fun e w'=>∃x:WV,e=.returned (.agg #[.bool x.b,.slice x.A x.n x.c])∧IsW P K w' x z∧Below w.heap.size w w':=by
 obtain⟨k,⟨r1,r2⟩,hk,e1,e2⟩:=(signed_rep m hl hd rfl).get
 refine(whole_signed.calls k P A c l m r1 r2 w hs hk).mono ?_
 rintro e w' ⟨v,rfl,hv,hb⟩
 obtain⟨A1,c1,rfl⟩:=Kd.V_slice hv
 refine⟨⟨r1,A1,r2.length,c1⟩,rfl,⟨⟨r2,rfl,Kd.V_mono hv (fun k hk=>hk.elim id (hP k)),by rw [hz];exact e1,by simpa using hK⟩,?_⟩,hb⟩
 simp only at e2 ⊢
 rw [e2,←hz]
 rcases hm with rfl|rfl
 · rw [Bool.eq_iff_iff];simp;omega
 · simp
theorem c_compare{n m:Int}(hs:Sl P w (.slice A l.length c) l)(hs':Sl P w (.slice A' l'.length c') l')(h:Rep B l n)(h':Rep B l' m)(hl:l.length≤20000000000010)(hl':l'.length≤20000000000010) :
 Calls Tryz.prog 116 #[.slice A l.length c,.slice A' l'.length c'] w fun e w'=>∃r:Int,e=.returned (.int .i64 r)∧((r<0↔n<m)∧(r=0↔n=m)∧(0<r↔m<n))∧Below w.heap.size w w':=by
 obtain⟨_,hc,hr⟩:=Kd.V_reads' hs
 obtain⟨_,hc',hr'⟩:=Kd.V_reads' hs'
 obtain⟨k,r,hk,e1⟩:=(compare_rep h h' hl hl').get
 refine(whole_compare.calls k A c l A' c' l' r w hr hc hr' hc' hk).mono ?_
 rintro e w' ⟨rfl,hd⟩
 exact⟨r,rfl,e1,hd.below⟩
theorem c_more(hs:Sl P w (.slice A l.length c) l)(hs':Sl P w (.slice A' l'.length c') l')(hd:Dg B l)(hd':Dg B l')(hl:l.length≤20000000000010)(hl':l'.length≤20000000000010)(hP:∀k,w.heap.size≤k→P k) :
 Calls Tryz.prog 128 #[.slice A l.length c,.slice A' l'.length c'] w fun e w'=>∃(A1:Option Addr) (c1:Nat) (r:List Int),e=.returned (.slice A1 r.length c1)∧Sl P w' (.slice A1 r.length c1) r∧Dg B r∧r.length≤max l.length l'.length+1∧val B r=val B l+val B l'∧Below w.heap.size w w':=by
 obtain⟨_,hc,hr⟩:=Kd.V_reads' hs
 obtain⟨_,hc',hr'⟩:=Kd.V_reads' hs'
 have hm:=more_sum hd hd' hl hl'
 by_cases hlt:l.length<l'.length
 · obtain⟨k,r,hk,e1,e2,e3⟩:=(hm.2 hlt).get;refine(PWholeS.whole_more.calls k A c l A' c' l' r w hr hc hr' hc' hk).mono ?_;rintro e w' ⟨v,rfl,hv,hb⟩;have hv2:=Kd.R_bound hv;obtain⟨A1,c1,rfl⟩:=Kd.R_slice hv;exact⟨A1,c1,r,rfl,Kd.V_mono (Kd.R_V hv2) (fun k hk=>hP k hk.2.1),e1,e2,e3,hb⟩
 · obtain⟨k,r,hk,e1,e2,e3⟩:=(hm.1 hlt).get;refine(whole_more.calls k A c l A' c' l' r w hr hc hr' hc' hk).mono ?_;rintro e w' ⟨v,rfl,hv,hb⟩;have hv2:=Kd.R_bound hv;obtain⟨A1,c1,rfl⟩:=Kd.R_slice hv;exact⟨A1,c1,r,rfl,Kd.V_mono (Kd.R_V hv2) (fun k hk=>hP k hk.2.1),e1,e2,e3,hb⟩
theorem c_less(hs:Sl P w (.slice A l.length c) l)(hs':Sl P w (.slice A' l'.length c') l')(hd:Dg B l)(hd':Dg B l')(hl:l.length≤20000000000010)(hle:val B l'≤val B l)(hP:∀k,w.heap.size≤k→P k) :
 Calls Tryz.prog 129 #[.slice A l.length c,.slice A' l'.length c'] w fun e w'=>∃(A1:Option Addr) (c1:Nat) (r:List Int),e=.returned (.slice A1 r.length c1)∧Sl P w' (.slice A1 r.length c1) r∧Dg B r∧r.length=l.length∧val B r=val B l-val B l'∧Below w.heap.size w w':=by
 obtain⟨_,hc,hr⟩:=Kd.V_reads' hs
 obtain⟨_,hc',hr'⟩:=Kd.V_reads' hs'
 obtain⟨k,r,hk,e1,e2,e3⟩:=(less_diff hd hd' hl hle).get
 refine(whole_less.calls k A c l A' c' l' r w hr hc hr' hc' hk).mono ?_
 rintro e w' ⟨v,rfl,hv,hb⟩
 have hv2:=Kd.R_bound hv
 obtain⟨A1,c1,rfl⟩:=Kd.R_slice hv
 exact⟨A1,c1,r,rfl,Kd.V_mono (Kd.R_V hv2) (fun k hk=>hP k hk.2.1),e1,e2,e3,hb⟩
theorem c_small{y:Int}(hs:Sl P w (.slice A l.length c) l)(hd:Dg B l)(hl:l.length≤20000000000010)(hy:0<y∧y<4294967296)(hP:∀k,w.heap.size≤k→P k) :
 Calls Tryz.prog 117 #[.slice A l.length c,.int .u32 y] w fun e w'=>∃(A1:Option Addr) (c1:Nat) (r:List Int) (m:Int),e=.returned (.tuple #[.slice A1 r.length c1,.int .u32 m])∧Sl P w' (.slice A1 r.length c1) r∧Dg B r∧r.length=l.length∧(0≤m∧m<y)∧val B r*y+m=val B l∧Below w.heap.size w w':=by
 obtain⟨_,hc,hr⟩:=Kd.V_reads' hs
 obtain⟨k,⟨r,m⟩,hk,e1,e2,e3,e4⟩:=(small_div hd hy hl).get
 refine(whole_small.calls k A c l y r m w hr hc hk).mono ?_
 rintro e w' ⟨v,rfl,hv,hb⟩
 have hv2:=Kd.R_bound hv
 obtain⟨A1,c1,rfl⟩:=Kd.R_slice hv
 exact⟨A1,c1,r,m,rfl,Kd.V_mono (Kd.R_V hv2) (fun k hk=>hP k hk.2.1),e1,e2,e3,e4,hb⟩
theorem c_guess{n m:Int}(hs:Sl P w (.slice A l.length c) l)(hs':Sl P w (.slice A' l'.length c') l')(h:Rep B l n)(h':Rep B l' m)(hm:0<m)(hl':l'.length≤20000000000010)(hab:l.length≤l'.length+1)(hq:n<B*m) :
 Calls Tryz.prog 135 #[.slice A l.length c,.slice A' l'.length c'] w fun e w'=>∃q:Int,e=.returned (.int .u32 q)∧(0≤q∧q<1000000000)∧n<(q+1)*m∧Below w.heap.size w w':=by
 obtain⟨_,hc,hr⟩:=Kd.V_reads' hs
 obtain⟨_,hc',hr'⟩:=Kd.V_reads' hs'
 obtain⟨q,hk,e1,e2,e3⟩:=guess_lt h h' hm hl' hab hq
 refine(whole_guess.calls A c l A' c' l' q w hr hc hr' hc' hk).mono ?_
 rintro e w' ⟨rfl,hb⟩
 exact⟨q,rfl,⟨e1,e2⟩,e3,hb⟩
end
def Ex(P:Nat→Prop)(g:Nat):Nat→Prop:=fun k=>P k∧k≠g
section
variable {P:Nat→Prop} {K:Nat} {w:World} {A:Option Addr} {n c:Nat} {z:Int} {x:WV} {v:Value} {l:List Int} {g:Nat}
theorem ex_fresh{w0 W:World}(hP:∀k,w0.heap.size≤k→P k)(hb:Below w0.heap.size w0 W)(hg:g<W.heap.size):∀k,W.heap.size≤k→Ex P g k :=
 fun k hk=>⟨hP k (Nat.le_trans hb.size hk),by omega⟩
theorem Sl.ex(h:Sl P w v l)(hg:w.heap.size≤g):Sl (Ex P g) w v l:=Kd.V_mono (Kd.V_bound h) (fun k hk=>⟨hk.1,by omega⟩)
theorem IsN.ex(h:IsN P K w A n c z)(hg:w.heap.size≤g):IsN (Ex P g) K w A n c z:=by
 obtain⟨l,h1,h2,h3,h4⟩:=h;exact⟨l,h1,h2.ex hg,h3,h4⟩
theorem IsW.ex(h:IsW P K w x z)(hg:w.heap.size≤g):IsW (Ex P g) K w x z:=⟨h.1.ex hg,h.2⟩
theorem Sl.out(h:Sl (Ex P g) w v l):Sl P w v l:=h.mono (fun _ hk=>hk.1)
theorem IsW.out(h:IsW (Ex P g) K w x z):IsW P K w x z:=h.mono (fun _ hk=>hk.1)
theorem Sl.set(h:Sl (Ex P g) w v l)(j:Nat)(u:Value):Sl (Ex P g) (w.setCell ⟨g,j,none⟩ u) v l:=h.step (fun k hk _=>Below.heap_setCell w ⟨g,j,none⟩ u k hk.2)
theorem IsW.set(h:IsW (Ex P g) K w x z)(j:Nat)(u:Value):IsW (Ex P g) K (w.setCell ⟨g,j,none⟩ u) x z:=h.step (fun k hk _=>Below.heap_setCell w ⟨g,j,none⟩ u k hk.2)
end
theorem cell_far{W:World}{p q:Addr}{v u:Value}(h:W.cell? p=some v)(hne:p.block≠q.block):(W.setCell q u).cell? p=some v:=by
 rw [World.cell?_setCell_far (h:=Ne.symm hne)];exact h
section
variable {P:Nat→Prop} {K K':Nat} {w:World}
theorem c_Abs{x:WV}{z:Int}(hx:IsW P K w x z) :
 Calls Tryz.prog 113 #[.agg #[.bool x.b,.slice x.A x.n x.c]] w fun e w'=>∃y:WV,e=.returned (.agg #[.bool y.b,.slice y.A y.n y.c])∧IsW P K w' y (z.natAbs:Int)∧Below w.heap.size w w':=by
 have H:=Lib.hid hx
 clear hx
 go_enter Tryz.func113,Tryz.ntmps113
 go_wp2_with fail
 refine bodyPost_ret (v:=.agg #[.bool false,.slice x.A x.n x.c]) (by simp [results,Tryz.results113,go_sem]) rfl ⟨⟨false,x.A,x.n,x.c⟩,rfl,⟨?_,?_⟩,(by repeat (first|exact Below.refl _ _|refine bl_alloc ?_ _|refine bl_drew ?_|refine bl_call ?_ (by assumption)))⟩
 · exact(show IsN P K _ x.A x.n x.c ((z.natAbs:Int).natAbs:Int)from by rw [Int.natAbs_natCast];exact H.out.1.below (by repeat (first|exact Below.refl _ _|refine bl_alloc ?_ _|refine bl_drew ?_|refine bl_call ?_ (by assumption))))
 · simp
end
end Go.Proofs.YtpdghgfbfmaplaaGreatDoor.Wh
end
