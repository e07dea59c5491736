/- Lemmas for RatLists. -/
import Derived.Test.YtpdghgfbfmaplaaGreatDoorZFrP
set_option maxRecDepth 100000
set_option maxHeartbeats 8000000
section
set_option linter.unusedVariables false
namespace Go.Proofs.YtpdghgfbfmaplaaGreatDoor.Wh
open Go.RowKit Go.Proofs.YtpdghgfbfmaplaaGreatDoor.Num Go.Proofs.YtpdghgfbfmaplaaGreatDoor.Dec
open Classical in
noncomputable def numOf (l:List UInt8):Option Rat:=if h:∃q,l=strF q∧Short q then some h.choose else none
theorem numOf_some{l:List UInt8}{q:Rat}:numOf l=some q↔l=strF q∧Short q:=by
 unfold numOf
 split
 · rename_i h
   have h1:=h.choose_spec;rw [Option.some.injEq];constructor
   · intro e;rw [←e];exact h1
   · rintro⟨e1,e2⟩;exact strF_inj (h1.1.symm.trans e1)
 · rename_i h
   constructor
   · intro e;cases e
   · intro e;exact absurd ⟨q,e⟩ h
theorem numOf_none{l:List UInt8}:numOf l=none↔∀q,l=strF q→¬Short q:=by
 constructor
 · intro h q e hs;rw [numOf_some.2 ⟨e,hs⟩]at h;cases h
 · intro h;cases e:numOf l with
   | none=>rfl
   | some q=>obtain ⟨h1,h2⟩:=numOf_some.1 e;exact absurd h2 (h q h1)
noncomputable def numB (s:ByteArray):Option Rat:=numOf s.data.toList
def bsOf(l:List UInt8):ByteArray:=⟨l.toArray⟩
theorem bsOf_list(l:List UInt8):(bsOf l).data.toList=l:=by simp [bsOf]
theorem bs_of{s:ByteArray}{l:List UInt8}(h:s.data.toList=l):s=bsOf l:=by
 subst h;cases s;simp [bsOf]
theorem numB_some{s:ByteArray}{q:Rat}:numB s=some q↔s=bsOf (strF q)∧Short q:=by
 unfold numB
 rw [numOf_some]
 constructor
 · rintro⟨h1,h2⟩;exact⟨bs_of h1,h2⟩
 · rintro⟨rfl,h2⟩;exact⟨bsOf_list _,h2⟩
theorem numB_str{q:Rat}(h:Short q):numB (bsOf (strF q))=some q:=numB_some.2 ⟨rfl,h⟩
def nob:ByteArray:=⟨#[]⟩
def tellB(q:Rat):ByteArray×Int:=if Short q then(bsOf (strF q),0)else (nob,2)
noncomputable def rBin (f:Rat→Rat→Rat) (a b:ByteArray):ByteArray×Int:=match numB a,numB b with
 | some x,some y=>tellB (f x y)
 | _,_=>(nob,1)
noncomputable def rAdd:ByteArray→ByteArray→ByteArray×Int:=rBin (· + ·)
noncomputable def rMul:ByteArray→ByteArray→ByteArray×Int:=rBin (· * ·)
noncomputable def rUn (f:Rat→Rat) (a:ByteArray):ByteArray×Int:=match numB a with
 | some x=>tellB (f x)
 | none=>(nob,1)
noncomputable def rFloor:ByteArray→ByteArray×Int:=rUn (fun x=>(x.floor:Rat))
def roundQ(x:Rat):Rat:=if 0<(x-(x.floor:Rat)-1/2).num.sign∨((x-(x.floor:Rat)-1/2).num.sign=0∧¬((x.floor:Rat)*(1/2)).den=1)then (x.floor:Rat)+1 else(x.floor:Rat)
noncomputable def rRound:ByteArray→ByteArray×Int:=rUn roundQ
noncomputable def rMultiple (a b:ByteArray):Bool×Int:=match numB a,numB b with
 | some x,some y=>if y.num.sign≤0 then(false,3)else (decide (0≤x.num.sign∧(x/y).den=1),0)
 | _,_=>(false,1)
def simpF:Nat→Rat→Rat→Rat
 | 0,a,_=>a
 | n+1,a,b=>if a.den=1 then a else if a.floor<b.floor then(a.floor:Rat)+1 else(a.floor:Rat)+1/simpF n (1/(b-(a.floor:Rat))) (1/(a-(a.floor:Rat)))
def simpQ(a b:Rat):Rat:=simpF (a.den+b.den) a b
noncomputable def rSimplest (a b:ByteArray):ByteArray×Int:=match numB a,numB b with
 | some x,some y=>if 0<(x-y).num.sign then(nob,3)else if x.num.sign≤0∧0≤y.num.sign then(⟨#[48]⟩,0)else if y.num.sign<0 then tellB (-simpQ (-y) (-x))else tellB (simpQ x y)
 | _,_=>(nob,1)
noncomputable def numsB:List ByteArray→Option (List Rat)
 | []=>some []
 | s :: l=>match numB s,numsB l with
  | some x,some xs=>some (x :: xs)
  | _,_=>none
def commQ(x y:Rat):Rat:=Rat.divInt (Int.gcd (x.num*y.den) (y.num*x.den):Int) ((x.den:Int)*y.den)
noncomputable def rCommon (l:List ByteArray):ByteArray×Int:=match numsB l with
 | none=>(nob,1)
 | some []=>(nob,5)
 | some (x :: xs)=>if (x :: xs).any (fun y=>decide (y.num.sign≤0))then (nob,3)else tellB (xs.foldl commQ x)
end Go.Proofs.YtpdghgfbfmaplaaGreatDoor.Wh
end
section
set_option linter.unusedVariables false
namespace Go.Proofs.YtpdghgfbfmaplaaGreatDoor.Wh
theorem rat_of{q:Rat}{n d:Int}(hd:0<d)(hc:Int.gcd n d=1)(h:q=Rat.divInt n d):q.num=n∧(q.den:Int)=d:=by
 subst h
 obtain⟨e1,e2⟩:=divInt_pos (z:=n) hd
 rw [hc,Int.natCast_one,Int.ediv_one]at e1 e2
 exact⟨e1,e2⟩
theorem rat_red(q:Rat):Int.gcd q.num (q.den:Int)=1:=by
 have:=q.reduced
 rw [Nat.Coprime]at this
 rw [Int.gcd];simpa using this
theorem den_ne(q:Rat):((q.den:Int):Rat)≠0:=by
 have:=q.den_nz
 intro h
 have h2:(q.den:Int)=0:=by exact_mod_cast h
 omega
theorem num_den(q:Rat):q*((q.den:Int):Rat)=(q.num:Rat):=by
 have h:=Rat.num_divInt_den q
 rw [Rat.divInt_eq_div]at h
 have h1:=den_ne q
 grind
theorem sub_parts(t:Rat)(L:Int):(t-(L:Rat)).num=t.num-L*t.den∧((t-(L:Rat)).den:Int)=t.den:=by
 refine rat_of (den_pos t) ?_ ?_
 · rw [Int.sub_eq_add_neg,←Int.neg_mul,Int.gcd_add_mul_right_left];exact rat_red t
 · rw [Rat.divInt_eq_div];have h1:=den_ne t;have h2:=num_den t;rw [Rat.intCast_sub,Rat.intCast_mul];grind
theorem inv_parts{s:Rat}(h:0<s.num):(1/s).num=s.den∧((1/s).den:Int)=s.num:=by
 refine rat_of h (by rw [Int.gcd_comm];exact rat_red s) ?_
 rw [Rat.divInt_eq_div]
 have h1:=den_ne s
 have h2:=num_den s
 have h3:((s.num:Int):Rat)≠0:=by
  intro h4;have:s.num=0:=by exact_mod_cast h4
  omega
 grind
theorem add_parts{s:Rat}(L:Int):((L:Rat)+s).num=L*s.den+s.num∧(((L:Rat)+s).den:Int)=s.den:=by
 have:=sub_parts s (-L)
 rw [show (L:Rat)+s=s-((-L:Int):Rat) by rw [Rat.intCast_neg];grind]
 rw [this.1,this.2]
 exact⟨by rw [Int.neg_mul];omega,rfl⟩
theorem floor_parts(q:Rat):(q.floor:Rat)≤q∧q<(q.floor:Rat)+1:=by
 refine⟨Rat.floor_le q,?_⟩
 have:=@Rat.lt_floor q
 grind
theorem num_pos{q:Rat}:0<q.num↔0<q:=by rw [Rat.lt_iff];simp
theorem int_le{a b:Int}:(a:Rat)≤(b:Rat)↔a≤b:=Rat.intCast_le_intCast
theorem floor_nn{q:Rat}(h:0<q):0≤q.floor:=by rw [Rat.le_floor_iff];simp;grind
theorem floor_mono{q p:Rat}(h:q≤p):q.floor≤p.floor:=by rw [Rat.le_floor_iff];have:=Rat.floor_le q;grind
theorem simp_sub{q t:Rat}(hq:0<q)(hd:¬q.den=1)(h:q≤t)(hf:¬q.floor<t.floor):0<(t-(q.floor:Rat)).num∧(t-(q.floor:Rat)).num<t.den∧0<t-(q.floor:Rat):=by
 have h1:=floor_parts q
 have h2:=floor_parts t
 have h3:=floor_mono h
 have h4:t.floor=q.floor:=by omega
 rw [h4]at h2
 have hne:(q.floor:Rat)≠q:=by
  intro e;apply hd
  rw [←e];rfl
 have h5:(q.floor:Rat)<t:=by grind
 have h6:0<t-(q.floor:Rat):=by grind
 refine⟨num_pos.2 h6,?_,h6⟩
 obtain⟨e1,e2⟩:=sub_parts t q.floor
 rw [e1]
 have h7:t<((q.floor+1:Int):Rat):=by rw [Rat.intCast_add];exact h2.2
 rw [Rat.lt_iff,show ((q.floor+1:Int):Rat).num=q.floor+1 from rfl,show ((q.floor+1:Int):Rat).den=1 from rfl]at h7
 rw [Int.add_mul,Int.one_mul]at h7
 omega
theorem inv_le{s u:Rat}(hs:0<s)(h:s≤u):1/u≤1/s:=by
 have hu:0<u:=by grind
 have h1:s*(1/s)=1:=by grind
 have h2:u*(1/u)=1:=by grind
 have h3:0<1/s:=by
  rw [←num_pos,(inv_parts (num_pos.2 hs)).1];exact den_pos s
 have h4:0<1/u:=by
  rw [←num_pos,(inv_parts (num_pos.2 hu)).1];exact den_pos u
 have h5:s*(1/s*(1/u))≤u*(1/s*(1/u)):=Rat.mul_le_mul_of_nonneg_right h (Rat.le_of_lt (Rat.mul_pos h3 h4))
 rw [←Rat.mul_assoc,h1,Rat.one_mul,Rat.mul_comm (1/s),←Rat.mul_assoc,h2,Rat.one_mul]at h5
 exact h5
theorem inv_pos{s:Rat}(hs:0<s):0<1/s:=by rw [←num_pos,(inv_parts (num_pos.2 hs)).1];exact den_pos s
theorem simp_spec:∀(n:Nat) (q p:Rat),0<q→q≤p→q.den+p.den≤n→q≤simpF n q p∧simpF n q p≤p∧∀t,q≤t→t≤p→(simpF n q p).den≤t.den∧(simpF n q p).num≤t.num:=by
 intro n
 induction n with
 | zero=>intro q p _ _ h;have:=q.den_nz;omega
 | succ n ih =>
  intro q p hq hp hn;have hf:=floor_parts q;have hf0:=floor_nn hq;have dpos:∀t:Rat,1≤t.den:=fun t=>by have:=t.den_nz;omega
  have numle:∀(a:Int) (t:Rat),0≤a→(a:Rat)≤t→a≤t.num:=by
   intro a t ha h;rw [Rat.le_iff]at h;simp at h
   have h1:=den_pos t;have h2:a*1≤a*t.den:=Int.mul_le_mul_of_nonneg_left (by omega) ha;omega
  unfold simpF
  by_cases h1:q.den=1
  · rw [if_pos h1];refine⟨Rat.le_refl,hp,fun t h2 h3=>⟨by rw [h1];exact dpos t,?_⟩⟩;have e:=rat_int h1;refine numle _ _ ?_ (by rw [←e];exact h2);have:=num_pos.2 hq;omega
  · rw [if_neg h1];by_cases h2:q.floor<p.floor
    · rw [if_pos h2];have e:(q.floor:Rat)+1=((q.floor+1:Int):Rat):=by rw [Rat.intCast_add];rfl
      have h3:=Rat.floor_le p;have h4:((q.floor+1:Int):Rat)≤(p.floor:Rat):=int_le.2 h2;refine⟨by grind,by rw [e];grind,fun t h5 h6=>⟨by rw [e];exact dpos t,?_⟩⟩;rw [e];show q.floor+1≤t.num
      have h7:(q.floor:Rat)<t:=by
       have:(q.floor:Rat)≠q:=by
        intro e;apply h1
        rw [←e];rfl
       grind
      rw [Rat.lt_iff]at h7;simp at h7
      have h8:=den_pos t;have h9:q.floor*1≤q.floor*t.den:=Int.mul_le_mul_of_nonneg_left (by omega) hf0;omega
    · rw [if_neg h2];obtain⟨a1,a2,a3⟩:=simp_sub hq h1 Rat.le_refl (by omega);obtain⟨b1,b2,b3⟩:=simp_sub hq h1 hp h2;obtain⟨c1,c2⟩:=sub_parts q q.floor;obtain⟨d1,d2⟩:=sub_parts p q.floor;obtain⟨f1,f2⟩:=inv_parts a1;obtain⟨g1,g2⟩:=inv_parts b1;have hle:q-(q.floor:Rat)≤p-(q.floor:Rat):=by grind
      obtain⟨i1,i2,i3⟩:=ih (1/(p-(q.floor:Rat))) (1/(q-(q.floor:Rat))) (inv_pos b3) (inv_le a3 hle) (by omega);generalize hr:simpF n (1/(p-(q.floor:Rat))) (1/(q-(q.floor:Rat)))=r at *
      have hr0:0<r:=by have:=inv_pos b3;grind
      obtain⟨j1,j2⟩:=inv_parts (num_pos.2 hr0);obtain⟨k1,k2⟩:=add_parts (s:=1/r) q.floor;have l1:=inv_le (inv_pos b3) i1;have l2:=inv_le hr0 i2;have m1:1/(1/(p-(q.floor:Rat)))=p-(q.floor:Rat):=by grind
      have m2:1/(1/(q-(q.floor:Rat)))=q-(q.floor:Rat):=by grind
      refine⟨by grind,by grind,fun t h5 h6=>?_⟩;have h7:¬q.floor<t.floor:=by have:=floor_mono h6;omega
      obtain⟨t1,t2,t3⟩:=simp_sub hq h1 h5 h7;obtain⟨u1,u2⟩:=sub_parts t q.floor;obtain⟨v1,v2⟩:=inv_parts t1;obtain⟨x1,x2⟩:=i3 (1/(t-(q.floor:Rat))) (inv_le t3 (by grind)) (inv_le a3 (by grind));rw [k1,j1,j2];refine⟨by omega,?_⟩;have y1:q.floor*r.num≤q.floor*t.den:=Int.mul_le_mul_of_nonneg_left (by omega) hf0;omega
end Go.Proofs.YtpdghgfbfmaplaaGreatDoor.Wh
end
