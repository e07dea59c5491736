/- Lemmas for RatLists. -/
import Derived.Test.YtpdghgfbfmaplaaGreatDoorZWhI
set_option maxRecDepth 100000
set_option maxHeartbeats 8000000
section
set_option linter.unusedVariables false
namespace Go.Proofs.YtpdghgfbfmaplaaGreatDoor.Wh
open Go.RowKit Go.Proofs.YtpdghgfbfmaplaaGreatDoorW.PrintWords Go.Proofs.YtpdghgfbfmaplaaGreatDoor.Num Go.Proofs.YtpdghgfbfmaplaaGreatDoor.PWhole Go.Proofs.YtpdghgfbfmaplaaGreatDoor.WhC
theorem c_Clone{P:Nat→Prop}{w:World}{A:Option Addr}{c:Nat}{l:List Int}(hs:Sl P w (.slice A l.length c) l)(hl:l.length≤20000000000010) :
 Calls Tryz.prog 134 #[.slice A l.length c] w fun e w'=>∃(A1:Option Addr) (c1:Nat),e=.returned (.slice A1 l.length c1)∧Kd.R (Kd.int .u32) 95 w' w.heap.size (fun _=>True) (.slice A1 l.length c1) l∧Below w.heap.size w w':=by
 obtain⟨_,hc,hr⟩:=Kd.V_reads' hs
 refine(slices_Clone_uint32_uint32.calls A c l l w hr hc (by simp only [slices_Clone_uint32_uint32.f];rw [if_pos (by omega)])).mono ?_
 rintro e w' ⟨v,rfl,hv,hb⟩
 obtain⟨A1,c1,rfl⟩:=Kd.R_slice hv
 exact⟨A1,c1,rfl,hv,hb⟩
theorem div_fin{z u f V R S m:Int}(hu:0<u)(hf:0<f)(h1:z*f=V*(u*f)+R)(h2:R<u*f)(h3:0≤S)(h4:S*f+m=R)(h5:0≤m)(h6:m<f):z/u=V∧z%u=S:=by
 have e1:(z-V*u-S)*f=m:=by grind
 have e2:z-V*u-S=0:=by
  rcases Int.lt_trichotomy (z-V*u-S) 0 with h|h|h
  · have:=Int.mul_neg_of_neg_of_pos h hf;omega
  · exact h
  · have:=Int.mul_le_mul_of_nonneg_right (show(1:Int)≤z-V*u-S by omega) (Int.le_of_lt hf);omega
 have e3:S<u:=by
  rcases Int.lt_or_le S u with h|h
  · exact h
  · have:=Int.mul_le_mul_of_nonneg_right h (Int.le_of_lt hf);omega
 have e4:z=S+u*V:=by rw [Int.mul_comm u V];omega
 rw [e4]
 exact⟨by rw [Int.add_mul_ediv_left _ _ (by omega),Int.ediv_eq_zero_of_lt h3 e3];omega,by rw [Int.add_mul_emod_self_left,Int.emod_eq_of_lt h3 e3]⟩
def PQ(P:Nat→Prop)(v:Value):Nat→Prop:=fun k=>P k∧some k≠v.ownBlock
theorem pq_fresh{P:Nat→Prop}{w W W1:World}{base:Nat}{ok:Nat→Prop}{v:Value}{Q:List Int}(hR:Kd.R (Kd.int .u32) 95 W base ok v Q)(hP:∀k,w.heap.size≤k→P k)(hb:Below w.heap.size w W)(h1:W.heap.size≤W1.heap.size):∀k,W1.heap.size≤k→PQ P v k :=
 fun k hk=>⟨hP k (Nat.le_trans hb.size (Nat.le_trans h1 hk)),fun e=>by have:=Kd.R_lt hR k e.symm;omega⟩
theorem sl_out{P:Nat→Prop}{w:World}{u v:Value}{l:List Int}(h:Sl (PQ P u) w v l):Sl P w v l:=h.mono (fun _ hk=>hk.1)
def DivRel(P:Nat→Prop)(w:World)(r0:List Int)(bv:Int)(A2:Option Addr)(c2:Nat)(r2:List Int)(i:Nat)(v7 v10 v11:Value)(W:World):Prop :=
 ∃(A7:Option Addr) (c7:Nat) (R Q:List Int),v7=.slice A7 R.length c7∧v11=.int .i64 ((i:Int)-1)∧Sl (PQ P v10) W (.slice A7 R.length c7) R∧Sl (PQ P v10) W (.slice A2 r2.length c2) r2 ∧
  Kd.R (Kd.int .u32) 95 W w.heap.size (fun _=>True) v10 Q∧Below w.heap.size w W∧DivInv r0 bv r2.length i R Q
def InRel(P:Nat→Prop)(W0:World)(bv pv:Int)(n:Nat)(v13 v14:Value)(W:World):Prop :=
 ∃(q:Int) (Ap:Option Addr) (cp:Nat) (pr:List Int),v13=.int .u32 q∧v14=.slice Ap pr.length cp∧Sl P W (.slice Ap pr.length cp) pr∧Rep B pr (bv*q)∧(0≤q∧q<1000000000)∧pv<(q+1)*bv∧n=q.toNat∧Below W0.heap.size W0 W
section
variable {P:Nat→Prop} {K:Nat} {w:World}
theorem c_divide{A A':Option Addr}{c c':Nat}{a b:List Int}{z u:Int}(ha:Sl P w (.slice A a.length c) a)(hb:Sl P w (.slice A' b.length c') b)(hz:Rep B a z)(hu:Rep B b u)(hu0:0<u)(hzu:u≤z)(hzK:z.natAbs<1000000000^K)(hK:K≤10000000000)(hP:∀k,w.heap.size≤k→P k) :
 Calls Tryz.prog 118 #[.slice A a.length c,.slice A' b.length c'] w fun e w'=>∃(A1 A2:Option Addr) (c1 c2:Nat) (q r:List Int),e=.returned (.tuple #[.slice A1 q.length c1,.slice A2 r.length c2])∧Sl P w' (.slice A1 q.length c1) q∧Sl P w' (.slice A2 r.length c2) r∧Rep B q (z/u)∧Rep B r (z%u)∧Below w.heap.size w w':=by
 have hla:=rep_len hz hzK
 have hlb:=rep_len hu (K:=K) (Nat.lt_of_le_of_lt (by omega) hzK)
 -- the highest word and the factor
 have hb0:b≠ []:=by intro e;subst e;have:=hu.2.2;simp [val]at this;omega
 have hbl:=List.length_pos_iff.2 hb0
 obtain⟨y,hy⟩:∃y:Int,y=at0 b (b.length-1):=⟨_,rfl⟩
 have htb:=dgbd hu.1 (b.length-1)
 rw [←hy]at htb
 have hcell:∃ad,A'=some ad∧w.cell? (ad.add (b.length-1))=some (.int .u32 y):=by
  rcases sl_cells hb with h|⟨ad,e,h⟩
  · exact absurd h hb0
  · refine⟨ad,e,h (b.length-1) _ ?_⟩;rw [List.getElem?_map,List.getElem?_eq_getElem (by omega),hy,at0_lt (by omega)];rfl
 obtain⟨ad,rfl,hcell⟩:=hcell
 have hy1:1≤y:=by
  have hn:=hu.2.1;have e:b.getLast?=some y:=by rw [List.getLast?_eq_getElem?,hy,at0_lt (by omega),List.getElem?_eq_getElem]
  unfold Nm at hn
  rw [e]at hn;have:y≠0:=fun h=>hn (by rw [h])
  omega
 have hf1:1≤1000000000/(y+1):=by
  have h1:(1:Int)*(y+1)≤1000000000:=by omega
  exact Int.le_ediv_of_mul_le (by omega) h1
 have hf2:1000000000/(y+1)<1000000000:=Int.ediv_lt_of_lt_mul (by omega) (by omega)
 have HA:=Lib.hid ha
 have HB:=Lib.hid hb
 have HZ:=Lib.hid hz
 have HU:=Lib.hid hu
 have HP:=Lib.hid hP
 have HZK:=Lib.hid hzK
 have HUK:=Lib.hid (show u.natAbs<1000000000^K from Nat.lt_of_le_of_lt (by omega) hzK)
 clear ha hb hz hu hP hy hb0 hzK
 go_enter Tryz.func118,Tryz.ntmps118
 go_wp2_with fail
 refine(c_times (P:=P) (K:=K) HA.out z HZ.out HZK.out (by omega) (by omega) HP.out).mono ?_
 rintro e w1 ⟨A1,c1,r1,rfl,hs1,hr1,hb1⟩
 have HS1:=Lib.hid hs1
 have HR1:=Lib.hid hr1
 clear hs1 hr1
 go_wp2_with fail
 refine(c_times (P:=P) (K:=K) (HB.out.below blo) u HU.out (Nat.lt_of_le_of_lt (by omega) HZK.out) (by omega) (by omega) (fun k hk=>HP.out k (Nat.le_trans (Below.size blo) hk))).mono ?_
 rintro e w2 ⟨A2,c2,r2,rfl,hs2,hr2,hb2⟩
 have HS2:=Lib.hid hs2
 have HR2:=Lib.hid hr2
 clear hs2 hr2
 have hl1:r1.length≤K+2:=rep_len (K:=K+1) HR1.out (by
  rw [Int.natAbs_mul,Nat.pow_add];have h1:=HZK.out;have h2:(1000000000/(y+1)).natAbs<1000000000^1:=by omega
  exact Nat.mul_lt_mul'' h1 h2)
 have hl2:r2.length≤K+2:=rep_len (K:=K+1) HR2.out (by
  rw [Int.natAbs_mul,Nat.pow_add];have h1:u.natAbs<1000000000^K:=Nat.lt_of_le_of_lt (by omega) HZK.out;have h2:(1000000000/(y+1)).natAbs<1000000000^1:=by omega
  exact Nat.mul_lt_mul'' h1 h2)
 go_wp2_with fail
 refine(c_Clone (P:=P) (HS1.out.below blo) (by omega)).mono ?_
 rintro e w3 ⟨A3,c3,rfl,hs3,hb3⟩
 have HS3:=Lib.hid hs3
 clear hs3
 go_wp2_with (at_builtin;go_must (refine Kd.R_append (Kd.int .u32) (w0:=w2) w2.heap.size rfl (.tmp 36) (.tmp 37) 48 95 (.int .u32 0) 4 rfl Tryz.underlying48 infoU32 rfl (by decide) (by decide) (.slice A3 r1.length c3) r1 0 [.int .u32 0] (fun _=>True) (fun _=>False) rfl rfl rfl (fun _ hk=>hk.elim) (fun _ _=>trivial) HS3.out (by assumption) (Below.size (by assumption)) (by omega) ?_);rintro v4 w4 hs4 hb4 hg4 hat4;have HS4:=Lib.hid (Kd.R_bound hs4);clear hs4 hg4 hat4;obtain⟨A4,c4,rfl⟩:=Kd.R_slice HS4.out)
 have HB04:=Lib.hid (show Below w.heap.size w w4 from bl_call blo (hb4.mono (Nat.le_refl _)))
 have HS24:=Lib.hid (show Sl P w4 (.slice A2 r2.length c2) r2 from HS2.out.step (fun k _ hk=>hb4.block k hk))
 have HS44:=Lib.hid (show Sl P w4 (.slice A4 (r1++ [0]).length c4) (r1++ [0])from Kd.V_mono (Kd.R_V HS4.out) (fun k hk=>HP.out k (Nat.le_trans (Below.size blo) hk.2.1)))
 have hbv:0<u*(1000000000/(y+1)):=Int.mul_pos hu0 (by omega)
 have hle:r2.length≤r1.length:=by
  have h1:=HR1.out;have h2:=HR2.out;have h3:u*(1000000000/(y+1))≤z*(1000000000/(y+1)):=Int.mul_le_mul_of_nonneg_right hzu (by omega);rcases Nat.lt_or_ge r1.length r2.length with h|h
  · exfalso
    have e1:=val_lt (by decide:(0:Int)<B) h1.1;have e2:=val_ge_of_Nm (by decide:(0:Int)<B) h2.1 h2.2.1 (by intro e;subst e;simp at h);have e3:B^r1.length≤B^(r2.length-1):=pow_mono (by decide) (by omega);rw [h1.2.2]at e1;rw [h2.2.2]at e2;omega
  · exact h
 have HI:=Lib.hid (DivInv.start (r0:=r1++ [0]) HR2.out hbv (by rw [Dg_append];exact⟨HR1.out.1,by intro x hx;simp at hx;subst hx;exact⟨by decide,by decide⟩⟩) (by simp;omega))
 clear hb1 hb2 hb3 hb4
 go_loopg [7,10,11] ((r1++ [0]).length-r2.length+1) (fun i v7 v10 v11 W=>DivRel P w (r1++ [0]) (u*(1000000000/(y+1))) A2 c2 r2 i v7 v10 v11 W)
 case atStart =>
  refine⟨A4,c4,r1++ [0],[],by simp,?_,?_,?_,Kd.R_nil _ _ _ _ _,HB04.out,HI.out⟩
  · simp;omega
  · exact HS44.out.mono (fun k hk=>⟨hk,by simp [Value.ownBlock]⟩)
  · exact HS24.out.mono (fun k hk=>⟨hk,by simp [Value.ownBlock]⟩)
 case round =>
  obtain⟨A7,c7,R,Q,rfl,rfl,hs7,hs2,hq,hbw,hinv⟩:=hrel;have HR1v:=Lib.hid HR1.out;clear HS1 HS2 HS3 HS4 HB04 HS24 HS44 HI HR1 HA HB HZ HU hcell hzu;have HS7:=Lib.hid hs7;have HS2:=Lib.hid hs2;have HQ:=Lib.hid hq;have HV:=Lib.hid hinv;clear hs7 hs2 hq hinv;cases gk with
  | zero =>
   have hRl:R.length≤K+40:=by have:=HV.out.len;omega
   have hQl:Q.length≤K+40:=by have:=HV.out.qlen;simp at this;omega
   have HB0:=Lib.hid hbw;clear hbw;obtain⟨k,Qr,hk,hr⟩:=(reverse_rep Q (by omega)).get;have HQr:=Lib.hid hr;have hQr:Qr.length≤K+40:=by rw [hr];simpa using hQl
   clear hr;go_wp2_with fail
   refine(slices_Reverse_uint32_uint32.calls k (fun k=>some k=u10.ownBlock) u10 Q Qr w wr HB0.out (Kd.R_tight rfl HQ.out) hk).mono ?_;rintro e w5 ⟨rfl,hq5,hb5,hk5⟩;have HQ5:=Lib.hid (show Sl P w5 u10 Qr from Kd.V_mono (Kd.R_V (Kd.R_bound hq5)) (fun k hk=>HP.out k hk.2.1));have HS5:=Lib.hid (show Sl (PQ P u10) w5 (.slice A7 R.length c7) R from Kd.V_kept HS7.out hk5 (fun k hk e=>hk.2 e));have HB5:=Lib.hid hb5;clear hq5 hb5 hk5 HQ HS7 HS2;obtain⟨Aq,cq,eq⟩:=Kd.V_slice HQ5.out;subst eq;have HS5':=Lib.hid (sl_out HS5.out);clear HS5;go_wp2_with fail
   refine(c_plain (P:=P) HS5'.out (by omega) HV.out.dR (fun k hk=>HP.out k (Nat.le_trans HB5.out.size hk))).mono ?_;rintro e w6 ⟨A6,c6,rr,rfl,hs6,hr6,hb6⟩;have HS6:=Lib.hid hs6;have HR6:=Lib.hid hr6;clear hs6 hr6
   have hrr:rr.length≤K+2:=rep_len (K:=K+1) HR6.out (by
    have h1:=HV.out.fin;have h2:(val B R).natAbs≤(u*(1000000000/(y+1))).natAbs:=by omega
    have h3:(u*(1000000000/(y+1))).natAbs<1000000000^(K+1):=by
     rw [Int.natAbs_mul,Nat.pow_add];have h1:u.natAbs<1000000000^K:=HUK.out;have h2:(1000000000/(y+1)).natAbs<1000000000^1:=by omega
     exact Nat.mul_lt_mul'' h1 h2
    omega)
   go_wp2_with fail
   refine(c_small (P:=P) HS6.out (rdg HR6.out) (by omega) (by omega) (fun k hk=>HP.out k (Nat.le_trans HB5.out.size (Nat.le_trans (Below.size blo) hk)))).mono ?_;rintro e w7 ⟨A8,c8,sq,m,rfl,hs8,hd8,hl8,hm8,hv8,hb7⟩;have HS8:=Lib.hid hs8;have HD8:=Lib.hid hd8;have HL8:=Lib.hid hl8;have HM8:=Lib.hid hm8;have HV8:=Lib.hid hv8;clear hs8 hd8 hl8 hm8 hv8;have HQ7:=Lib.hid (HQ5.out.below (show Below w5.heap.size w5 w7 from blo));go_wp2_with fail
   refine(c_plain (P:=P) HQ7.out (by omega) (by intro a ha;rw [HQr.out]at ha;exact HV.out.dQ a (by simpa using ha)) (fun k hk=>HP.out k (Nat.le_trans HB5.out.size (Nat.le_trans (Below.size blo) hk)))).mono ?_;rintro e w8 ⟨A9,c9,qq,rfl,hs9,hr9,hb8⟩;have HS9:=Lib.hid hs9;have HR9:=Lib.hid hr9;clear hs9 hr9;go_wp2_with fail
   refine(c_plain (P:=P) (HS8.out.below blo) (by have:=HL8.out;omega) HD8.out (fun k hk=>HP.out k (Nat.le_trans HB5.out.size (Nat.le_trans (Below.size blo) hk)))).mono ?_;rintro e w9 ⟨A10,c10,oo,rfl,hs10,hr10,hb9⟩;have HS10:=Lib.hid hs10;have HR10:=Lib.hid hr10;have HB9:=Lib.hid (show Below w5.heap.size w5 w9 from blo);have HS9':=Lib.hid (show Sl P w9 (.slice A9 qq.length c9) qq from HS9.out.below blo);clear hs10 hr10;go_wp2_with fail
   have fin:z/u=val B Q.reverse∧z%u=val B sq:=by
    have h1:=HV.out.fin;rw [val_snoc,rval HR1v.out,Int.mul_zero,Int.add_zero]at h1;have h2:=HV8.out;rw [rval HR6.out]at h2;exact div_fin hu0 (by omega) h1.1 h1.2.2 (val_nonneg (by decide) HD8.out) h2 HM8.out.1 HM8.out.2
   go_ret2
   refine⟨A9,A10,c9,c10,qq,oo,rfl,HS9'.out,HS10.out,?_,?_,bl_call HB5.out HB9.out⟩
   · rw [fin.1,←HQr.out];exact HR9.out
   · rw [fin.2];exact HR10.out
  | succ j =>
   have ej:(((j+1:Nat):Int)-1)=(j:Int):=by omega
   rw [ej];clear ej;have hjR:j≤R.length:=by have:=HV.out.le;omega
   have hRl:R.length≤j+1+r2.length+1:=HV.out.len;have hjl:(j:Int)+Q.length+1≤K+32:=by have:=HV.out.qlen;simp at this;omega
   obtain⟨A9,c9,hs9,hcut⟩:=sl_drop HS7.out j hjR;obtain⟨D,hD⟩:∃D,R.drop j=D:=⟨_,rfl⟩;have hDl:D.length≤r2.length+2:=by rw [←hD];simp;omega
   have hpart:=HV.out.part;rw [hD]at hs9 hcut hpart;have HD:=Lib.hid hD;have HS9:=Lib.hid hs9;have HPV:=Lib.hid hpart;have HDd:=Lib.hid (show Dg B D from hD▸HV.out.dR.drop j);clear hs9 hD hpart;have hPQ:∀W1:World,wr.heap.size≤W1.heap.size→∀k,W1.heap.size≤k→PQ P u10 k:=fun W1 h1=>pq_fresh HQ.out HP.out hbw h1
   have HPQ:=Lib.hid hPQ;clear hPQ;go_wp2_with fail
   refine(c_plain (P:=PQ P u10) HS9.out (by omega) HDd.out (HPQ.out _ (Nat.le_refl _))).mono ?_;rintro e w5 ⟨A5,c5,pl,rfl,hs5,hr5,hb5⟩;have HS5:=Lib.hid hs5;have HR5:=Lib.hid hr5;clear hs5 hr5;have hpl:pl.length≤r2.length+1:=by
    have h1:=HR5.out;have h2:=HR2.out;have h3:=HPV.out.2.1;rcases Nat.lt_or_ge (r2.length+1) pl.length with h|h
    · exfalso
      have e1:=val_ge_of_Nm (by decide:(0:Int)<B) h1.1 h1.2.1 (by intro e;subst e;simp at h);have e2:=val_lt (by decide:(0:Int)<B) h2.1;have e3:B^(r2.length+1)≤B^(pl.length-1):=pow_mono (by decide) (by omega);rw [Int.pow_succ]at e3;rw [h1.2.2]at e1;rw [h2.2.2]at e2;generalize B^r2.length=X at *
      have e4:B*(u*(1000000000/(y+1)))≤X*B:=by rw [Int.mul_comm];exact Int.mul_le_mul_of_nonneg_right (by omega) (by decide)
      omega
    · exact h
   go_wp2_with fail
   refine(c_guess (P:=PQ P u10) (HS5.out.below blo) (HS2.out.below blo) HR5.out HR2.out hbv (by omega) hpl HPV.out.2.1).mono ?_;rintro e w6 ⟨q0,rfl,hq0,hq1,hb6⟩;have HQ1:=Lib.hid hq1;clear hq1;go_wp2_with fail
   refine(c_times (P:=PQ P u10) (K:=K+1) (HS2.out.below blo) (u*(1000000000/(y+1))) HR2.out ?hK2 (by omega) hq0 (HPQ.out _ (Below.size blo))).mono ?_
   case hK2 =>
    rw [Int.natAbs_mul,Nat.pow_add];have h1:u.natAbs<1000000000^K:=HUK.out;have h2:(1000000000/(y+1)).natAbs<1000000000^1:=by omega
    exact Nat.mul_lt_mul'' h1 h2
   rintro e w7 ⟨A8,c8,pr0,rfl,hs8,hr8,hb7⟩;have HS8:=Lib.hid hs8;have HR8:=Lib.hid hr8;clear hs8 hr8;have HS57:=Lib.hid (show Sl (PQ P u10) w7 (.slice A5 pl.length c5) pl from HS5.out.below blo);have HS27:=Lib.hid (show Sl (PQ P u10) w7 (.slice A2 r2.length c2) r2 from HS2.out.below blo);have HB57:=Lib.hid (show Below wr.heap.size wr w7 from blo);have hz7:wr.heap.size≤w7.heap.size:=HB57.out.size;obtain⟨hs70,hcut3⟩:=sl_take HS7.out j hjR;obtain⟨T,hT⟩:∃T,R.take j=T:=⟨_,rfl⟩;have hTl:T.length=j:=by rw [←hT];simp;omega
   rw [hT]at hs70 hcut3;have HTl:=Lib.hid hTl;have HT:=Lib.hid hT;have HS70:=Lib.hid (show Sl (PQ P u10) w7 (.slice A7 T.length T.length) T from hs70.below blo);clear hs70 hT hTl hb5 hb6 hb7;have hPw7:∀W1:World,w7.heap.size≤W1.heap.size→∀k,W1.heap.size≤k→PQ P u10 k:=fun W1 h1=>HPQ.out W1 (Nat.le_trans hz7 h1)
   have HPw7:=Lib.hid hPw7;clear hPw7;have HQ7:=Lib.hid (show Kd.R (Kd.int .u32) 95 w7 w.heap.size (fun _=>True) u10 Q from Kd.R_below HQ.out HB57.out);have HB07:=Lib.hid (show Below w.heap.size w w7 from bl_call hbw HB57.out);have hpv0:0≤val B D:=HPV.out.1;go_wp2_with fail
   go_loopg [13,14] q0.toNat (fun n v13 v14 W=>InRel (PQ P u10) w7 (u*(1000000000/(y+1))) (val B D) n v13 v14 W)
   case atStart=>exact ⟨q0,A8,c8,pr0,rfl,rfl,HS8.out,HR8.out,hq0,HQ1.out,rfl,Below.refl _ _⟩
   case round =>
    obtain⟨q,Ap,cp,pr,rfl,rfl,hsp,hrp,hqq,hqv,hn,hbi⟩:=hrel;have HSP:=Lib.hid hsp;have HRP:=Lib.hid hrp;have HQV:=Lib.hid hqv;have HN:=Lib.hid hn;clear hsp hrp hqv hn
    have hprl:pr.length≤K+3:=rep_len (K:=K+1+1) HRP.out (by
     rw [Int.natAbs_mul,Int.natAbs_mul,Nat.pow_add,Nat.pow_add];have h1:u.natAbs<1000000000^K:=HUK.out;have h2:(1000000000/(y+1)).natAbs<1000000000^1:=by omega
     have h3:q.natAbs<1000000000^1:=by omega
     exact Nat.mul_lt_mul'' (Nat.mul_lt_mul'' h1 h2) h3)
    have HS57r:=Lib.hid (HS57.out.below hbi);have HS27r:=Lib.hid (HS27.out.below hbi);go_wp2_with fail
    refine(c_compare (P:=PQ P u10) HSP.out HS57r.out HRP.out HR5.out (by omega) (by omega)).mono ?_;rintro e w8 ⟨rc,rfl,hrc,hb8⟩;have HRC:=Lib.hid hrc;clear hrc;by_cases hgt:0<rc
    · have hlt:val B D<u*(1000000000/(y+1))*q:=HRC.out.2.2.1 hgt;have hq1:1≤q:=by
       rcases Int.lt_or_le 0 q with h|h
       · omega
       · obtain rfl:q=0:=by omega
         simp at hlt;omega
      have HLE:=Lib.hid (show val B r2≤val B pr by
       rw [rval HRP.out,rval HR2.out];have:=Int.mul_le_mul_of_nonneg_left hq1 (Int.le_of_lt hbv)
       omega)
      have HLT:=Lib.hid hlt;clear hlt;go_wp2_with fail
      refine(c_less (P:=PQ P u10) (HSP.out.below blo) (HS27r.out.below blo) (rdg HRP.out) (rdg HR2.out) (by omega) HLE.out (HPw7.out _ (Nat.le_trans hbi.size (Below.size blo)))).mono ?_;rintro e w9 ⟨A10,c10,r10,rfl,hs10,hd10,hl10,hv10,hb9⟩;have HS10:=Lib.hid hs10;have HD10:=Lib.hid hd10;have HL10:=Lib.hid hl10;have HV10:=Lib.hid hv10;clear hs10 hd10 hl10 hv10;go_wp2_with fail
      refine(c_plain (P:=PQ P u10) (HS10.out.below blo) (by have:=HL10.out;omega) HD10.out (HPw7.out _ (Nat.le_trans hbi.size (Below.size blo)))).mono ?_;rintro e w10 ⟨A11,c11,r11,rfl,hs11,hr11,hb10⟩;have HS11:=Lib.hid hs11;have HR11:=Lib.hid hr11;have HB10:=Lib.hid (show Below w7.heap.size w7 w10 from blo);clear hs11 hr11;go_wp2_with fail
      go_roundg (q-1).toNat
      case measure=>have:=HN.out;omega
      case rel =>
       refine⟨q-1,A11,c11,r11,rfl,rfl,HS11.out,?_,by omega,?_,rfl,HB10.out⟩
       · have:=HR11.out;rw [HV10.out,rval HRP.out,rval HR2.out]at this;rwa [show u*(1000000000/(y+1))*(q-1)=u*(1000000000/(y+1))*q-u*(1000000000/(y+1)) by grind]
       · rw [show (q-1+1)*(u*(1000000000/(y+1)))=u*(1000000000/(y+1))*q by grind];exact HLT.out
    · have HGE:=Lib.hid (show u*(1000000000/(y+1))*q≤val B D by
       have h1:=HRC.out.2.2;rcases Int.lt_or_le (val B D) (u*(1000000000/(y+1))*q)with h|h
       · exact absurd (h1.2 h) hgt
       · exact h)
      have hTj:T.length≤K+40:=by have:=HTl.out;omega
      have HS7c:=Lib.hid (HS70.out.below hbi);have HQc:=Lib.hid (show Kd.R (Kd.int .u32) 95 w8 w.heap.size (fun _=>True) u10 Q from Kd.R_below (Kd.R_below HQ7.out hbi) hb8);have HB0c:=Lib.hid (show Below w.heap.size w w8 from bl_call (bl_call HB07.out hbi) hb8);obtain⟨Aq,cq,eq⟩:=Kd.R_slice HQc.out;subst eq;go_wp2_with fail
      go_region_held3 (fun _=>True) (trivial)
       (first
        | (go_at_call 129;go_must (with_reducible refine(c_less (P:=PQ P (.slice Aq Q.length cq)) (HS57r.out.below blo) (HSP.out.below blo) (rdg HR5.out) (rdg HRP.out) (by omega) (by rw [rval HRP.out,rval HR5.out];exact HGE.out) (HPw7.out _ (Nat.le_trans hbi.size (Below.size blo)))).mono ?_);rintro e w9 ⟨A10,c10,d,rfl,hs10,hd10,hl10,hv10,hb9⟩;have HS10:=Lib.hid hs10;have HD10:=Lib.hid hd10;have HL10:=Lib.hid hl10;have HV10:=Lib.hid hv10;clear hs10 hd10 hl10 hv10)
        | (refine step_append_full (P:=PQ P (.slice Aq Q.length cq)) rfl (.tmp 70) (.tmp 73) rfl rfl (A:=A7) (xs:=T) (ys:=d) rfl rfl (HS7c.out.below blo) (HS10.out.below blo) (by have:=HL10.out;omega) (HPw7.out _ (Nat.le_trans hbi.size (Below.size blo))) ?_;intro A12 c12 w12 hs12 hb12;have HS12:=Lib.hid hs12;clear hs12))
      have HQd:=Lib.hid (show Kd.R (Kd.int .u32) 95 w12 w.heap.size (fun _=>True) (.slice Aq Q.length cq) Q from Kd.R_below HQc.out blo);have HB0d:=Lib.hid (show Below w.heap.size w w12 from bl_call HB0c.out blo);have HS2d:=Lib.hid (show Sl (PQ P (.slice Aq Q.length cq)) w12 (.slice A2 r2.length c2) r2 from HS27r.out.below blo);have hQl:Q.length≤K+40:=by omega
      go_wp2_with (at_builtin;go_must (refine Kd.R_append (Kd.int .u32) (w0:=w) w.heap.size rfl (.tmp 75) (.tmp 77) 48 95 (.int .u32 0) 4 rfl Tryz.underlying48 infoU32 rfl (by decide) (by decide) (.slice Aq Q.length cq) Q q [.int .u32 q] (fun _=>True) (fun _=>False) rfl rfl rfl (fun _ hk=>hk.elim) (fun _ _=>trivial) HQd.out HB0d.out HB0d.out.size (by omega) ?_);intro v13 w13 hq13 hb13 hg13 hat13;have HQ13:=Lib.hid hq13;have HB13:=Lib.hid hb13;have HG13:=Lib.hid hg13;have HAT13:=Lib.hid hat13;clear hq13 hb13 hg13 hat13)
      go_roundg j
      case measure=>omega
      case rel =>
       refine⟨A12,c12,T++d,Q++ [q],by simp,rfl,Kd.V_after HS12.out HG13.out HAT13.out,Kd.V_after HS2d.out HG13.out HAT13.out,HQ13.out,HB13.out,?_⟩;have h1:=HT.out;have h2:=HD.out;rw [←h1];refine HV.out.step HD10.out hqq ?_ ?_ ?_ (by have:=HL10.out;omega)
       · rw [h2,HV10.out,rval HR5.out,rval HRP.out]
       · rw [h2];exact HGE.out
       · rw [h2];exact HQV.out
end
end Go.Proofs.YtpdghgfbfmaplaaGreatDoor.Wh
end
