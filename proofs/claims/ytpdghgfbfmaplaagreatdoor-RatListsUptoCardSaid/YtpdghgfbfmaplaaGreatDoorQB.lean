/- Lemmas for RatLists. -/
import Derived.Test.YtpdghgfbfmaplaaGreatDoorProg
import Derived.Test.YtpdghgfbfmaplaaGreatDoorQA
import Derived.Lib.Hide
import Derived.WalkSpells
set_option maxRecDepth 100000
set_option maxHeartbeats 8000000
section
namespace Go.Proofs.YtpdghgfbfmaplaaGreatDoor.Num
def at0(xs:List Int)(i:Nat):Int:=xs.getD i 0
def val(B:Int):List Int→Int
 | []=>0
 | w :: ws=>w+B*val B ws
def Dg(B:Int)(l:List Int):Prop:=∀x∈l,0≤x∧x<B
def Nm(l:List Int):Prop:=l.getLast?≠some 0
def Rep(B:Int)(l:List Int)(n:Int):Prop:=Dg B l∧Nm l∧val B l=n
theorem val_append(B:Int)(a b:List Int):val B (a++b)=val B a+B^a.length*val B b:=by
 induction a with
 | nil=>simp [val]
 | cons w ws ih=>simp only [List.cons_append,val,ih,List.length_cons,Int.pow_succ];grind
theorem Dg.nil(B:Int):Dg B []:=by intro x h;cases h
theorem Dg_cons{B w:Int}{l:List Int}:Dg B (w :: l)↔(0≤w∧w<B)∧Dg B l:=by simp [Dg]
theorem Dg_append{B:Int}{a b:List Int}:Dg B (a++b)↔Dg B a∧Dg B b:=by
 simp only [Dg,List.mem_append]
 exact⟨fun h=>⟨fun x hx=>h x (.inl hx),fun x hx=>h x (.inr hx)⟩,fun h x hx=>hx.elim (h.1 x) (h.2 x)⟩
theorem Dg.take{B:Int}{l:List Int}(h:Dg B l)(n:Nat):Dg B (l.take n):=fun x hx=>h x (List.mem_of_mem_take hx)
theorem Dg.drop{B:Int}{l:List Int}(h:Dg B l)(n:Nat):Dg B (l.drop n):=fun x hx=>h x (List.mem_of_mem_drop hx)
theorem Dg.set{B:Int}{l:List Int}(h:Dg B l)(n:Nat){v:Int}(hv:0≤v∧v<B):Dg B (l.set n v):=by
 intro x hx
 rcases List.mem_or_eq_of_mem_set hx with h1|h1
 · exact h x h1
 · exact h1▸hv
theorem Dg.replicate{B:Int}(hB:0<B)(n:Nat):Dg B (List.replicate n 0):=by
 intro x hx
 rw [List.mem_replicate]at hx
 omega
theorem Dg.at0_{B:Int}{l:List Int}(h:Dg B l)(hB:0<B)(i:Nat):0≤at0 l i∧at0 l i<B:=by
 unfold at0
 rw [List.getD_eq_getElem?_getD]
 by_cases hi:i<l.length
 · rw [List.getElem?_eq_getElem hi];exact h _ (List.getElem_mem hi)
 · rw [List.getElem?_eq_none (by omega)];simp;exact hB
theorem val_nonneg{B:Int}(hB:0<B){l:List Int}(h:Dg B l):0≤val B l:=by
 induction l with
 | nil=>simp [val]
 | cons w ws ih =>
  rw [Dg_cons]at h;have:=ih h.2;have h2:0≤B*val B ws:=Int.mul_nonneg (by omega) this;simp only [val];omega
theorem val_lt{B:Int}(hB:0<B){l:List Int}(h:Dg B l):val B l<B^l.length:=by
 induction l with
 | nil=>simp [val]
 | cons w ws ih =>
  rw [Dg_cons]at h;have:=ih h.2;simp only [val,List.length_cons,Int.pow_succ];have h2:B*(val B ws+1)≤B*B^ws.length:=Int.mul_le_mul_of_nonneg_left (by omega) (by omega);have h3:B*B^ws.length=B^ws.length*B:=Int.mul_comm _ _;have h4:B*(val B ws+1)=B*val B ws+B:=by grind
  omega
theorem pow_pos'{B:Int}(hB:0<B)(n:Nat):0<B^n:=Int.pow_pos hB
theorem pow_mono{B:Int}(hB:1≤B){m n:Nat}(h:m≤n):B^m≤B^n:=by
 induction n with
 | zero => obtain rfl : m = 0 := by omega
           exact Int.le_refl _
 | succ n ih =>
  rcases Nat.lt_or_ge m (n+1)with h1|h1
  · have h2:=ih (by omega);have h3:0<B^n:=Int.pow_pos (by omega);have h4:B^n*1≤B^n*B:=Int.mul_le_mul_of_nonneg_left hB (by omega);rw [Int.pow_succ];omega
  · obtain rfl:m=n+1:=by omega
    exact Int.le_refl _
theorem Nm.nil:Nm []:=by simp [Nm]
theorem Nm_append_ne{a b:List Int}(hb:b≠ []):Nm (a++b)↔Nm b:=by
 unfold Nm
 rw [List.getLast?_append]
 cases h:b.getLast? with
 | none=>simp [List.getLast?_eq_none_iff]at h;exact absurd h hb
 | some v=>simp
theorem Nm.tail{w:Int}{l:List Int}(h:Nm (w :: l)):Nm l:=by
 cases l with
 | nil=>exact Nm.nil
 | cons x xs=>unfold Nm at *;simpa [List.getLast?_cons_cons]using h
theorem val_pos_of_Nm{B:Int}(hB:0<B){l:List Int}(h:Dg B l)(hn:Nm l)(hl:l≠ []):0<val B l:=by
 induction l with
 | nil=>exact absurd rfl hl
 | cons w ws ih =>
  rw [Dg_cons]at h;by_cases e:ws= []
  · subst e;simp [Nm]at hn
    simp only [val];have:=h.1;omega
  · have:=ih h.2 hn.tail e;have h2:0<B*val B ws:=Int.mul_pos hB this;simp only [val];omega
theorem val_zero_iff{B:Int}(hB:0<B){l:List Int}(h:Dg B l)(hn:Nm l):val B l=0↔l= []:=by
 constructor
 · intro e;by_cases hl:l= []
   · exact hl
   · have:=val_pos_of_Nm hB h hn hl;omega
 · rintro rfl;rfl
theorem val_ge_of_Nm{B:Int}(hB:0<B){l:List Int}(h:Dg B l)(hn:Nm l)(hl:l≠ []):B^(l.length-1)≤val B l:=by
 induction l with
 | nil=>exact absurd rfl hl
 | cons w ws ih =>
  have hp:=val_pos_of_Nm hB h hn hl;rw [Dg_cons]at h;by_cases e:ws= []
  · subst e;simp only [List.length_cons,List.length_nil];simp;omega
  · have h1:=ih h.2 hn.tail e;obtain⟨m,hm⟩:∃m,ws.length=m+1:=⟨ws.length-1,by have:=List.length_pos_iff.2 e;omega⟩;rw [hm]at h1;simp only [List.length_cons,hm,val,Nat.add_sub_cancel]at *;rw [Int.pow_succ];have h2:B*B^m≤B*val B ws:=Int.mul_le_mul_of_nonneg_left h1 (by omega);have h3:B*B^m=B^m*B:=Int.mul_comm _ _;omega
theorem val_inj{B:Int}(hB:0<B):∀ {a b:List Int},Dg B a→Dg B b→Nm a→Nm b→val B a=val B b→a=b
 | [],b,_,hb,_,nb,h=>by
  have:val B b=0:=by rw [←h];rfl
  exact((val_zero_iff hB hb nb).1 this).symm
 | x :: xs,[],ha,_,na,_,h=>by
  have:val B (x :: xs)=0:=by rw [h];rfl
  exact(val_zero_iff hB ha na).1 this
 | x :: xs,y :: ys,ha,hb,na,nb,h=>by
  rw [Dg_cons]at ha hb;simp only [val]at h;have hx:x=y:=by
   have e1:(x+B*val B xs)%B=x:=by rw [Int.add_mul_emod_self_left];exact Int.emod_eq_of_lt ha.1.1 ha.1.2
   have e2:(y+B*val B ys)%B=y:=by rw [Int.add_mul_emod_self_left];exact Int.emod_eq_of_lt hb.1.1 hb.1.2
   rw [←e1,←e2,h]
  subst hx;have:val B xs=val B ys:=Int.eq_of_mul_eq_mul_left (a:=B) (by omega) (by omega);rw [val_inj hB ha.2 hb.2 na.tail nb.tail this]
theorem Rep.inj{B:Int}(hB:0<B){a b:List Int}{n:Int}(ha:Rep B a n)(hb:Rep B b n):a=b :=
 val_inj hB ha.1 hb.1 ha.2.1 hb.2.1 (ha.2.2.trans hb.2.2.symm)
theorem Rep.nonneg{B:Int}(hB:0<B){a:List Int}{n:Int}(h:Rep B a n):0≤n:=h.2.2▸val_nonneg hB h.1
theorem Rep.zero(B:Int):Rep B [] 0:=⟨Dg.nil B,Nm.nil,rfl⟩
theorem Rep.nil_iff{B:Int}(hB:0<B){a:List Int}{n:Int}(h:Rep B a n):a= []↔n=0:=by
 rw [←h.2.2];exact(val_zero_iff hB h.1 h.2.1).symm
theorem at0_ge{l:List Int}{i:Nat}(h:l.length≤i):at0 l i=0:=by
 unfold at0;rw [List.getD_eq_getElem?_getD,List.getElem?_eq_none h];rfl
theorem at0_lt{l:List Int}{i:Nat}(h:i<l.length):at0 l i=l[i]:=by
 unfold at0;rw [List.getD_eq_getElem?_getD,List.getElem?_eq_getElem h];rfl
theorem val_take_succ(B:Int)(l:List Int)(i:Nat):val B (l.take (i+1))=val B (l.take i)+B^i*at0 l i:=by
 by_cases h:i<l.length
 · rw [List.take_succ_eq_append_getElem h,val_append,List.length_take,Nat.min_eq_left (by omega),at0_lt h];simp [val]
 · rw [List.take_of_length_le (by omega),List.take_of_length_le (by omega),at0_ge (by omega)];simp
theorem val_take_drop(B:Int)(l:List Int)(i:Nat)(h:i≤l.length):val B l=val B (l.take i)+B^i*val B (l.drop i):=by
 conv=>lhs;rw [←List.take_append_drop i l,val_append]
 rw [List.length_take,Nat.min_eq_left h]
theorem val_set(B:Int)(v:Int):∀(l:List Int) (i:Nat),i<l.length→val B (l.set i v)=val B l+B^i*(v-at0 l i)
 | [],i,h=>by simp at h
 | w :: ws,0,_=>by simp [val,at0];omega
 | w :: ws,i+1,h=>by
  have:=val_set B v ws i (by simpa using h);have e:at0 (w :: ws) (i+1)=at0 ws i:=by simp [at0]
  simp only [List.set_cons_succ,val,this,e,Int.pow_succ];grind
theorem val_replicate(B:Int)(n:Nat):val B (List.replicate n 0)=0:=by
 induction n with
 | zero=>rfl
 | succ n ih=>simp [List.replicate_succ,val,ih]
theorem val_snoc(B:Int)(l:List Int)(x:Int):val B (l++ [x])=val B l+B^l.length*x:=by
 rw [val_append];simp [val]
def EvS{α:Type}(g:Nat→Option α)(S:α→Prop):Prop:=∃r k0,S r∧∀k,k0≤k→g k=some r
theorem EvS.step{α:Type}{g h:Nat→Option α}{S:α→Prop}(H:EvS h S)(hg:∀k,g (k+1)=h k):EvS g S:=by
 obtain⟨r,k0,hr,hk⟩:=H
 refine⟨r,k0+1,hr,fun k h1=>?_⟩
 obtain⟨m,rfl⟩:∃m,k=m+1:=⟨k-1,by omega⟩
 rw [hg];exact hk _ (by omega)
theorem EvS.congr{α:Type}{g h:Nat→Option α}{S:α→Prop}(H:EvS h S)(hg:∀k,g k=h k):EvS g S:=by
 obtain⟨r,k0,hr,hk⟩:=H
 exact⟨r,k0,hr,fun k h1=>by rw [hg];exact hk k h1⟩
theorem EvS.pure{α:Type}{S:α→Prop}{r:α}(h:S r):EvS (fun _=>some r) S:=⟨r,0,h,fun _ _=>rfl⟩
theorem EvS.done{α:Type}{g:Nat→Option α}{S:α→Prop}{r:α}(hg:∀k,g (k+1)=some r)(h:S r):EvS g S:=EvS.step (EvS.pure h) hg
theorem EvS.bind{α β:Type}{g:Nat→Option α}{f:Nat→α→Option β}{S:α→Prop}{T:β→Prop}(H:EvS g S)(hf:∀r,S r→EvS (fun k=>f k r) T):EvS (fun k=>(g k).bind (f k)) T:=by
 obtain⟨r,k0,hr,hk⟩:=H
 obtain⟨r',k1,hr',hk'⟩:=hf r hr
 refine⟨r',max k0 k1,hr',fun k h1=>?_⟩
 show(g k).bind (f k)=some r'
 rw [hk k (by omega),Option.bind_some];exact hk' k (by omega)
theorem EvS.mono{α:Type}{g:Nat→Option α}{S T:α→Prop}(H:EvS g S)(h:∀r,S r→T r):EvS g T:=by
 obtain⟨r,k0,hr,hk⟩:=H
 exact⟨r,k0,h r hr,hk⟩
theorem EvS.get{α:Type}{g:Nat→Option α}{S:α→Prop}(H:EvS g S):∃k r,g k=some r∧S r:=by
 obtain⟨r,k0,hr,hk⟩:=H
 exact⟨k0,r,hk k0 (Nat.le_refl _),hr⟩
end Go.Proofs.YtpdghgfbfmaplaaGreatDoor.Num
end
section
set_option linter.unusedVariables false
namespace Go.Proofs.YtpdghgfbfmaplaaGreatDoor.Dec
open Go.Proofs.YtpdghgfbfmaplaaGreatDoor.Num
def dig(n:Nat):UInt8:=UInt8.ofNat (48+n%10)
theorem dig_toNat(n:Nat):(dig n).toNat=48+n%10:=by
 unfold dig;rw [UInt8.toNat_ofNat'];have:=Nat.mod_lt n (show 0<10 by decide);exact Nat.mod_eq_of_lt (by omega)
theorem u8_eq{a b:UInt8}(h:a.toNat=b.toNat):a=b:=by
 have:=UInt8.toBitVec_inj (a:=a) (b:=b);apply this.1;apply BitVec.eq_of_toNat_eq;exact h
def dec(n:Nat):List UInt8:=if n<10 then [dig n]else dec (n/10)++ [dig n]
termination_by n
decreasing_by omega
theorem dec_small{n:Nat}(h:n<10):dec n= [dig n]:=by rw [dec,if_pos h]
theorem dec_big{n:Nat}(h:10≤n):dec n=dec (n/10)++ [dig n]:=by rw [dec,if_neg (by omega)]
def dval(l:List UInt8):Nat:=l.foldl (fun a c=>10*a+(c.toNat-48)) 0
theorem dval_nil:dval []=0:=rfl
theorem foldl_dval(l:List UInt8):∀a,l.foldl (fun a c=>10*a+(c.toNat-48)) a=a*10^l.length+dval l:=by
 induction l with
 | nil=>intro a;simp [dval]
 | cons c t ih =>
  intro a;have h1:=ih (10*a+(c.toNat-48));have h2:=ih (10*0+(c.toNat-48));simp only [List.foldl_cons,dval,List.length_cons]at *;rw [h1,h2,Nat.pow_succ];have:(10*a+(c.toNat-48))*10^t.length=a*(10^t.length*10)+(c.toNat-48)*10^t.length:=by
   rw [Nat.add_mul,Nat.mul_comm 10 a,Nat.mul_assoc,Nat.mul_comm 10 (10^t.length)]
  rw [this];simp only [Nat.mul_zero,Nat.zero_add];omega
theorem dval_append(a b:List UInt8):dval (a++b)=dval a*10^b.length+dval b:=by
 have:=foldl_dval b (dval a);simp only [dval,List.foldl_append]at *;exact this
theorem dval_snoc(a:List UInt8)(c:UInt8):dval (a++ [c])=10*dval a+(c.toNat-48):=by simp only [dval,List.foldl_append,List.foldl_cons,List.foldl_nil]
theorem dval_cons(c:UInt8)(b:List UInt8):dval (c :: b)=(c.toNat-48)*10^b.length+dval b:=by
 have:=dval_append [c] b;simp only [List.singleton_append]at this;rw [this];simp [dval]
def Digs(l:List UInt8):Prop:=∀c∈l,48≤c.toNat∧c.toNat≤57
theorem Digs.nil:Digs []:=fun c h=>by cases h
theorem Digs.append{a b:List UInt8}:Digs (a++b)↔Digs a∧Digs b:=by
 unfold Digs;constructor
 · intro h;exact⟨fun c hc=>h c (List.mem_append_left _ hc),fun c hc=>h c (List.mem_append_right _ hc)⟩
 · intro h c hc;rcases List.mem_append.1 hc with hc|hc;exact h.1 c hc;exact h.2 c hc
theorem digs_dig(n:Nat):Digs [dig n]:=by
 intro c hc;simp only [List.mem_singleton]at hc;subst hc;rw [dig_toNat];omega
theorem dval_lt{l:List UInt8}(h:Digs l):dval l<10^l.length:=by
 induction l with
 | nil=>simp [dval]
 | cons c t ih =>
  have h1:=ih (fun x hx=>h x (List.mem_cons_of_mem _ hx));have h2:=h c List.mem_cons_self;rw [dval_cons,List.length_cons,Nat.pow_succ];have h3:(c.toNat-48)*10^t.length≤9*10^t.length:=Nat.mul_le_mul_right _ (by omega);omega
theorem dec_digs(n:Nat):Digs (dec n):=by
 induction n using dec.induct with
 | case1 n h=>rw [dec_small h];exact digs_dig n
 | case2 n h ih=>rw [dec_big (by omega),Digs.append];exact⟨ih,digs_dig n⟩
theorem dval_dec(n:Nat):dval (dec n)=n:=by
 induction n using dec.induct with
 | case1 n h=>rw [dec_small h];simp only [dval,List.foldl_cons,List.foldl_nil,dig_toNat];omega
 | case2 n h ih=>rw [dec_big (by omega),dval_snoc,ih,dig_toNat];omega
theorem dec_inj{m n:Nat}(h:dec m=dec n):m=n:=by rw [←dval_dec m,h,dval_dec]
theorem dec_ne(n:Nat):dec n≠ []:=by
 by_cases h:n<10
 · rw [dec_small h];simp
 · rw [dec_big (by omega)];simp
theorem dec_zero:dec 0= [48]:=by rw [dec_small (by decide)];rfl
theorem head_app{a b:List UInt8}(h:a≠ []):(a++b).head?=a.head?:=by cases a with|nil=>exact absurd rfl h|cons x t=>rfl
def Lead(l:List UInt8):Prop:=l≠ []∧(l.head?=some 48→l= [48])
theorem dec_lead(n:Nat):Lead (dec n):=by
 induction n using dec.induct with
 | case1 n h =>
  refine⟨dec_ne n,?_⟩;rw [dec_small h];intro h;simp only [List.head?_cons,Option.some.injEq]at h;rw [h]
 | case2 n h ih =>
  refine⟨dec_ne n,?_⟩;rw [dec_big (by omega)];intro hh;rw [head_app (dec_ne _)]at hh;have:=ih.2 hh;rw [←dec_zero]at this;have:=dec_inj this;omega
theorem dval_pos{l:List UInt8}(hd:Digs l)(hl:Lead l)(h:l≠ [48]):0<dval l:=by
 match l,hl,hd,h with
 | c :: t,hl,hd,h =>
  rw [dval_cons];have h1:c≠48:=fun e=>h (hl.2 (by rw [e];rfl))
  have h2:=hd c List.mem_cons_self;have h3:c.toNat≠48:=fun e=>h1 (u8_eq (by rw [e];rfl))
  have h4:0<(c.toNat-48)*10^t.length:=Nat.mul_pos (by omega) (Nat.pow_pos (by decide));omega
theorem dig_of{c:UInt8}(h:48≤c.toNat∧c.toNat≤57)(n:Nat)(hn:n%10=c.toNat-48):dig n=c:=u8_eq (by rw [dig_toNat];omega)
theorem dec_dval:∀(n:Nat) (l:List UInt8),l.length=n→Digs l→Lead l→dec (dval l)=l:=by
 intro n
 induction n with
 | zero=>intro l h1 _ h3;exact absurd (List.eq_nil_of_length_eq_zero h1) h3.1
 | succ n ih =>
  intro l h1 h2 h3;obtain⟨a,c,rfl⟩:∃a c,l=a++ [c]:=by
   exact⟨l.dropLast,l.getLast h3.1,(List.dropLast_concat_getLast h3.1).symm⟩
  rw [Digs.append]at h2;have hc:=h2.2 c (by simp);rw [dval_snoc];by_cases ha:a= []
  · subst ha;rw [dval_nil,dec_small (by omega)];simp only [Nat.mul_zero,Nat.zero_add,List.nil_append];rw [dig_of hc _ (by omega)]
  · have hla:Lead a:=⟨ha,fun hh=>by
     have:=h3.2 (by rw [head_app ha];exact hh);have:=congrArg List.length this;simp at this
     exact absurd this ha⟩
    have ha48:a≠ [48]:=fun e=>by
     subst e;have:=h3.2 rfl;simp at this
    have:=dval_pos h2.1 hla ha48;rw [dec_big (by omega),show (10*dval a+(c.toNat-48))/10=dval a by omega,ih a (by simpa using h1) h2.1 hla,dig_of hc _ (by omega)]
theorem dec_of{l:List UInt8}(hd:Digs l)(hl:Lead l):dec (dval l)=l:=dec_dval _ l rfl hd hl
theorem dval_drop(l:List UInt8):dval (l.dropWhile (· == 48))=dval l:=by
 induction l with
 | nil=>rfl
 | cons c t ih =>
  by_cases h:c=48
  · subst h;rw [List.dropWhile_cons_of_pos (by rfl),ih,dval_cons];simp
  · rw [List.dropWhile_cons_of_neg (by simpa using h)]
theorem digs_drop{l:List UInt8}(h:Digs l):Digs (l.dropWhile (· == 48)):=fun c hc=>h c ((List.dropWhile_sublist _).subset hc)
theorem drop_dec{l:List UInt8}(h:Digs l)(h0:0<dval l):l.dropWhile (· == 48)=dec (dval l):=by
 rw [←dval_drop l]
 refine(dec_of (digs_drop h) ⟨?_,?_⟩).symm
 · intro e;have:=dval_drop l;rw [e,dval_nil]at this;omega
 · intro e;exfalso
   have:=List.head?_dropWhile_not (· == (48:UInt8)) l;rw [e]at this;simp at this
def strW(z:Int):List UInt8:=if z<0 then 45 :: dec z.natAbs else dec z.natAbs
theorem dec_no{n:Nat}{c:UInt8}(hc:c.toNat<48∨57<c.toNat):c∉dec n:=fun h=>by have:=dec_digs n c h;omega
theorem strW_inj{z u:Int}(h:strW z=strW u):z=u:=by
 unfold strW at h
 have h45:∀n l,dec n≠45 :: l:=fun n l e=>dec_no (n:=n) (c:=45) (by decide) (by rw [e];simp)
 by_cases hz:z<0 <;> by_cases hu:u<0
 · rw [if_pos hz,if_pos hu]at h;simp only [List.cons.injEq,true_and]at h;have:=dec_inj h;omega
 · rw [if_pos hz,if_neg hu]at h;exact absurd h.symm (h45 _ _)
 · rw [if_neg hz,if_pos hu]at h;exact absurd h (h45 _ _)
 · rw [if_neg hz,if_neg hu]at h;have:=dec_inj h;omega
def pad:Nat→Nat→List UInt8
 | 0,_=>[]
 | k+1,n=>pad k (n/10)++ [dig n]
theorem pad_len(k:Nat):∀n,(pad k n).length=k:=by
 induction k with
 | zero=>intro n;rfl
 | succ k ih=>intro n;simp [pad,ih]
theorem pad_digs(k:Nat):∀n,Digs (pad k n):=by
 induction k with
 | zero=>intro n;exact Digs.nil
 | succ k ih=>intro n;simp only [pad];rw [Digs.append];exact⟨ih _,digs_dig n⟩
theorem pad_val(k:Nat):∀n,n<10^k→dval (pad k n)=n:=by
 induction k with
 | zero=>intro n h;simp at h;subst h;rfl
 | succ k ih =>
  intro n h;rw [Nat.pow_succ]at h;simp only [pad];rw [dval_snoc,ih _ (by omega),dig_toNat];omega
def outs(l:List Int):List UInt8:=l.reverse.flatMap (fun y=>pad 9 y.toNat)
theorem outs_cons(y:Int)(l:List Int):outs (y :: l)=outs l++pad 9 y.toNat:=by
 simp [outs,List.reverse_cons,List.flatMap_append]
theorem outs_digs(l:List Int):Digs (outs l):=by
 induction l with
 | nil=>exact Digs.nil
 | cons y t ih=>rw [outs_cons,Digs.append];exact⟨ih,pad_digs 9 _⟩
theorem outs_val{l:List Int}(h:Dg 1000000000 l):(dval (outs l):Int)=val 1000000000 l:=by
 induction l with
 | nil=>rfl
 | cons y t ih =>
  have h1:=h y List.mem_cons_self;have h2:=ih (fun x hx=>h x (List.mem_cons_of_mem _ hx));rw [outs_cons,dval_append,pad_len,pad_val 9 _ (by omega)];simp only [val];rw [←h2];omega
theorem outs_dec{l:List Int}{n:Int}(h:Rep 1000000000 l n)(hn:n≠0):(outs l).dropWhile (· == 48)=dec n.toNat:=by
 have h1:=outs_val h.1
 have h2:=h.nonneg (by decide)
 rw [h.2.2]at h1
 rw [drop_dec (outs_digs l) (by omega)]
 congr 1;omega
def wordsOf(t:List UInt8):List Int:=if t= []then []else (dval (t.drop (t.length-9)):Int) :: wordsOf (t.take (t.length-9))
termination_by t.length
decreasing_by
 have:0<t.length:=List.length_pos_iff.2 (by assumption)
 rw [List.length_take];omega
theorem wordsOf_nil:wordsOf []= []:=by rw [wordsOf,if_pos rfl]
theorem wordsOf_ne{t:List UInt8}(h:t≠ []):wordsOf t=(dval (t.drop (t.length-9)):Int) :: wordsOf (t.take (t.length-9)):=by rw [wordsOf,if_neg h]
theorem digs_take{t:List UInt8}(h:Digs t)(n:Nat):Digs (t.take n):=fun c hc=>h c (List.mem_of_mem_take hc)
theorem digs_dropn{t:List UInt8}(h:Digs t)(n:Nat):Digs (t.drop n):=fun c hc=>h c (List.mem_of_mem_drop hc)
theorem wordsOf_facts:∀(n:Nat) (t:List UInt8),t.length=n→Digs t→Dg 1000000000 (wordsOf t)∧val 1000000000 (wordsOf t)=dval t∧9*(wordsOf t).length<t.length+9:=by
 intro n
 induction n using Nat.strongRecOn with
 | _ n ih =>
  intro t h1 h2;by_cases h:t= []
  · subst h;rw [wordsOf_nil];exact⟨Dg.nil _,rfl,by simp⟩
  · have hp:0<t.length:=List.length_pos_iff.2 h;rw [wordsOf_ne h];obtain⟨i1,i2,i3⟩:=ih (t.take (t.length-9)).length (by rw [List.length_take];omega) _ rfl (digs_take h2 _);have hl:=dval_lt (digs_dropn h2 (t.length-9));have hlen:(t.drop (t.length-9)).length≤9:=by rw [List.length_drop];omega
    have hlt:dval (t.drop (t.length-9))<1000000000:=Nat.lt_of_lt_of_le hl (Nat.le_trans (Nat.pow_le_pow_right (by decide) hlen) (by decide));refine⟨?_,?_,?_⟩
    · intro y hy;rcases List.mem_cons.1 hy with rfl|hy
      · omega
      · exact i1 y hy
    · simp only [val];rw [i2];have e:=dval_append (t.take (t.length-9)) (t.drop (t.length-9));rw [List.take_append_drop]at e;by_cases h9:t.length≤9
      · have e1:t.take (t.length-9)= []:=by rw [show t.length-9=0 by omega];rfl
        rw [e1,dval_nil]at e ⊢;omega
      · have e1:(t.drop (t.length-9)).length=9:=by rw [List.length_drop];omega
        rw [e1]at e;omega
    · rw [List.length_take]at i3;rw [List.length_cons];omega
end Go.Proofs.YtpdghgfbfmaplaaGreatDoor.Dec
end
section
set_option linter.unusedVariables false
namespace Go.Proofs.YtpdghgfbfmaplaaGreatDoorW.PrintWords
open Go.RowKit
namespace Kd
section
variable {α:Type} {P:Program} {ops:Array Oper} {rest:List Oper} {o:Oper} {a:Act} {Q:Exit→Act→World→Prop}
theorem R_make0(d:Kd α){w0 W:World}(base e:Nat)(hgd:o.guard=none){N:Tmp}(hd:o.dst=some N)(t:TypeId)(x y:Operand)(ho:o.op=.makeSlice t x y)(n:Int)(hx:a.eval x=.int .i64 0)(hy:a.eval y=.int .i64 n)
 (ht:P.underlying t=some (.slice e)) (z:Value) (bytes:Nat) (hinfo:(P.info? e).map (fun i=>(i.zero,i.size,i.bytes))=some (some z,d.sz,bytes))
 (hb0:0<bytes) (z0:α) {ok:Nat→Prop} (hfresh:ok W.heap.size) (h0:0≤n) (hl:n.toNat*bytes≤281474976710656) (HB:Below base w0 W) (hbase:base≤W.heap.size)
 (h:∀v1 w1,d.R e w1 base ok v1 (List.replicate 0 z0)→Below base w0 w1→W.grownBy w1 none→(∃b,v1.ownBlock=some b∧W.heap.size≤b)→wpList P ops Q rest (a.put o.dst v1) w1):wpList P ops Q (o :: rest) a W:=by
 obtain⟨m,rfl⟩:=Int.eq_ofNat_of_zero_le h0
 simp only [Int.toNat_natCast]at hl
 obtain⟨i0,hi,hz0,hz1,hz2⟩:=info_parts hinfo
 have hm:m≤281474976710656:=Nat.le_trans (Nat.le_mul_of_pos_right _ hb0) hl
 refine wpList_make_own W hgd x y t ho base e i0 z d.sz ht hi hz0 hz1 .i64 .i64 (m:Int) m hx hy rfl (by rw [hz2,Nat.mul_comm];exact hl) (by unfold maxLen;omega) hbase ?_
 intro w1 hown hg
 refine h _ w1 ⟨fun k hk=>?_,[],hown,Reps.none _ _⟩ (HB.grown hg hbase (fun k hk=>by cases hk)) hg ⟨W.heap.size,rfl,Nat.le_refl _⟩
 have:W.heap.size=k:=by simpa [Value.ownBlock]using hk
 exact this▸hfresh
end
end Kd
end Go.Proofs.YtpdghgfbfmaplaaGreatDoorW.PrintWords
namespace Go.Proofs.YtpdghgfbfmaplaaGreatDoor.PWhole
open Go.RowKit Go.Proofs.YtpdghgfbfmaplaaGreatDoorW.PrintWords Go.Proofs.YtpdghgfbfmaplaaGreatDoorW.PrintLast Go.Proofs.YtpdghgfbfmaplaaGreatDoorW.PrintMore
theorem infoU32:(Tryz.prog.info? 95).map (fun i=>(i.zero,i.size,i.bytes))=some (some (.int .u32 0),1,4):=by kernel_rfl
def slices_Clone_uint32_uint32.f(l0:List Int):Option (List Int):=if l0.length<35184372088832 then some l0 else none
theorem slices_Clone_uint32_uint32.calls(A0:Option Addr)(c0:Nat)(l0:List Int)(r:List Int)(w:World)(hr0:Kd.C (Kd.int .u32) w A0 l0.length l0)(hc0:l0.length≤c0)(h:slices_Clone_uint32_uint32.f l0=some r) :
 Calls Tryz.prog 134 #[.slice A0 l0.length c0] w fun e w'=>∃v0_:Value,e=.returned (v0_)∧Kd.R (Kd.int .u32) 95 w' w.heap.size (fun _=>True) v0_ r∧Below w.heap.size w w':=by
 unfold slices_Clone_uint32_uint32.f at h
 split at h
 case isFalse=>cases h
 rename_i hlt
 injection h with h
 subst h
 have HR:=Lib.hid hr0
 clear hr0
 have hnil:∀(W:World) (n:Nat),(binOp .eql 48 (.slice A0 n c0) (.slice none 0 0)).run Tryz.prog W=.ok (.bool A0.isNone) W:=fun W n=>Lib.run_eql_slice_nil W _ _ A0 n c0 0 0 Tryz.underlying48
 cases A0 with
 | none =>
  have hl:l0= []:=by
   cases l0 with
   | nil=>rfl
   | cons x xs=>obtain ⟨ad,e,_⟩:=HR.out.2.2 (by simp);cases e
  clear HR;subst hl;go_enter Tryz.func134,Tryz.ntmps134
  go_wp2
  go_ret
  exact⟨_,rfl,Kd.R_nil _ _ _ _ _,Below.refl _ _⟩
 | some ad =>
  have HO:Hid (Kd.R (Kd.int .u32) 95 (w.alloc (.cells #[] 95)) w.heap.size (fun _=>True) (.slice (some ⟨w.heap.size,0,none⟩) 0 0) []) :=
   ⟨fun _ _=>trivial,[],⟨rfl,.inr ⟨w.heap.size,0,#[],rfl,Nat.le_refl _,heap_alloc_new w _,Nat.le_refl _,by simp [maxLen],rfl,rfl⟩⟩,Reps.none _ _⟩
  go_enter Tryz.func134,Tryz.ntmps134
  go_wp2_with (at_builtin;go_must (refine Kd.R_append_rows (Kd.int .u32) (Rr:=fun x cs=>cs= [.int .u32 x]) (w0:=w) w.heap.size rfl (.tmp 5) (.tmp 6) 48 95 (.int .u32 0) 4 rfl Tryz.underlying48 infoU32 rfl (by decide) (by decide) (.slice (some ⟨w.heap.size,0,none⟩) 0 0) [] l0 (some ad) l0.length c0 (fun _=>True) (fun _=>False) rfl rfl HO.out (Kd.C_below HR.out ((Below.refl _ _).alloc (Nat.le_refl _) _)) (fun _ _ h=>h) (fun _ hk=>hk.elim) (fun _ _=>trivial) ((Below.refl _ _).alloc (Nat.le_refl _) _) (by simp) (by simp;omega) ?_);intro v1 w1 hR hB hg hat)
  go_ret
  exact⟨_,rfl,hR,hB⟩
end Go.Proofs.YtpdghgfbfmaplaaGreatDoor.PWhole
end
