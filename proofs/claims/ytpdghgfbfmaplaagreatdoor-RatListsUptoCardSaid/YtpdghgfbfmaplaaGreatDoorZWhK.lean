/- Lemmas for RatLists. -/
import Derived.Test.YtpdghgfbfmaplaaGreatDoorZDivR9
import Derived.Test.YtpdghgfbfmaplaaGreatDoorZDiv1
set_option maxRecDepth 100000
set_option maxHeartbeats 8000000
section
set_option linter.unusedVariables false
namespace Go.Proofs.YtpdghgfbfmaplaaGreatDoor.Wh
open Go.RowKit Go.Proofs.YtpdghgfbfmaplaaGreatDoorW.PrintWords Go.Proofs.YtpdghgfbfmaplaaGreatDoor.Num Go.Proofs.YtpdghgfbfmaplaaGreatDoor.PWhole Go.Proofs.YtpdghgfbfmaplaaGreatDoor.WhC
section
variable {P:Nat→Prop} {K K':Nat} {w:World}
theorem div_walk{x y:WV}{l l':List Int}{z u:Int}(hlx:l.length=x.n)(hly:l'.length=y.n)(hxb:x.b=decide (z<0))(hyb:y.b=decide (u<0))(h2:Sl P w (.slice x.A x.n x.c) l)(h2':Sl P w (.slice y.A y.n y.c) l')(hl:l.length≤K+1)(hl':l'.length≤K+1)(h3:Rep B l (z.natAbs:Int))(h3':Rep B l' (u.natAbs:Int))(hzK:z.natAbs<1000000000^K)(huK:u.natAbs<1000000000^K)(hK:K≤10000000000)(hP:∀k,w.heap.size≤k→P k)(hu:u≠0) :
 Calls Tryz.prog 100 #[.agg #[.bool x.b,.slice x.A x.n x.c],.agg #[.bool y.b,.slice y.A y.n y.c]] w fun e w'=>∃q r:WV,e=.returned (.tuple #[.agg #[.bool q.b,.slice q.A q.n q.c],.agg #[.bool r.b,.slice r.A r.n r.c]])∧IsW P (K+1) w' q (z/u)∧IsW P (K+1) w' r (z%u)∧Below w.heap.size w w':=by
 have hl0:l'≠ []:=by intro e;subst e;have:=h3'.2.2;simp [val]at this;omega
 obtain⟨ad,y0,had,hcell⟩:∃(ad:Addr) (y0:Int),y.A=some ad∧(w.cell? ad=some (.int .u32 y0)∧∃t,l'=y0 :: t):=by
  rw [←hly]at h2';rcases sl_cells h2' with h|⟨ad,e,h⟩
  · exact absurd h hl0
  · cases l' with
    | nil=>exact absurd rfl hl0
    | cons y0 t=>exact ⟨ad,y0,e,by have:=h 0 (.int .u32 y0) rfl;rwa [show ad.add 0=ad by cases ad;rfl]at this,t,rfl⟩
 obtain⟨hcell,ht⟩:=hcell
 have hy1:l'.length=1→(u.natAbs:Int)=y0∧0<y0∧y0<4294967296:=by
  intro h1;obtain⟨t,rfl⟩:=ht;have ht0:t= []:=by simpa using h1
  subst ht0;have h4:=h3'.2.2;have h5:=h3'.1 y0 (by simp);simp [val]at h4
  have:B=1000000000:=rfl;omega
 have HY1:=Lib.hid hy1
 have H2:=Lib.hid ((h2.ex (g:=w.heap.size+1+1) (by omega)).ex (g:=w.heap.size+1+1+1) (by omega))
 have H2':=Lib.hid ((h2'.ex (g:=w.heap.size+1+1) (by omega)).ex (g:=w.heap.size+1+1+1) (by omega))
 have H3:=Lib.hid h3
 have H3':=Lib.hid h3'
 have HP:=Lib.hid (show ∀W:World,Below w.heap.size w W→w.heap.size+4≤W.heap.size→∀k,W.heap.size≤k→(Ex (Ex P (w.heap.size+1+1)) (w.heap.size+1+1+1)) k from fun W hb hs k hk=>⟨⟨hP k (Nat.le_trans hb.size hk),by omega⟩,by omega⟩)
 have HZK:=Lib.hid hzK
 have HUK:=Lib.hid huK
 have hadlt:ad.block<w.heap.size:=World.block_lt_of_cell? (h:=hcell)
 obtain⟨yb,yA,yn,yc⟩:=y
 obtain⟨xb,xA,xn,xc⟩:=x
 simp only at had hlx hly hxb hyb
 subst had hlx hly
 have HXB:=Lib.hid hxb
 have HYB:=Lib.hid hyb
 clear hxb hyb
 clear h2 h2' h3 h3' hP hzK huK hl0 ht hy1
 go_enter Tryz.func100,Tryz.ntmps100
 go_upto_block 0 with fail
 go_cut [6,7] (fun s6 s7 W=>DivTop w ⟨xb,xA,l.length,xc⟩ ⟨yb,some ad,l'.length,yc⟩ W∧∃(Aq Ar:Option Addr) (cq cr:Nat) (q r:List Int),DivWords (Ex (Ex P (w.heap.size+1+1)) (w.heap.size+1+1+1)) K W s6 s7 z.natAbs u.natAbs Aq Ar cq cr q r)
 case first =>
  go_wp2_with fail
  go_at_call 116
  refine(c_compare (P:=(Ex (Ex P (w.heap.size+1+1)) (w.heap.size+1+1+1))) (H2.out.below blo) (H2'.out.below blo) H3.out H3'.out (by omega) (by omega)).mono ?_;rintro e w1 ⟨rc,rfl,hc1,hb1⟩;have HC1:=Lib.hid hc1;clear hc1;have HF1:=Lib.hid (show Fr [(w.heap.size,0,.bool xb),(w.heap.size,1,.slice xA l.length xc),(w.heap.size+1,0,.bool yb),(w.heap.size+1,1,.slice (some ad) l'.length yc),(w.heap.size+1+1,0,.bool false),(w.heap.size+1+1,1,.slice none 0 0),(w.heap.size+1+1+1,0,.bool false),(w.heap.size+1+1+1,1,.slice none 0 0)] (w.heap.size+1+1+1+1) w1 from Fr.go (Fr.cons (Fr.cons (Fr.cons (Fr.cons (Fr.cons (Fr.cons (Fr.cons (Fr.cons (Fr.nil (by simp)) (by omega) (by go_simp) (by go_simp)) (by omega) (by go_simp) (by go_simp)) (by omega) (by go_simp) (by go_simp)) (by omega) (by go_simp) (by go_simp)) (by omega) (by go_simp) (by go_simp)) (by omega) (by go_simp) (by go_simp)) (by omega) (by go_simp) (by go_simp)) (by omega) (by go_simp) (by go_simp)) hb1);have hz1:=HF1.out.1;obtain⟨_,_,_,_,_,_,_,_,-⟩:=HF1.out.alls 0 8;obtain⟨_,_,_,_,-⟩:=HF1.out.falls 4 4;have hadc:w1.cell? ad=some (.int .u32 y0):=(by(repeat' (first|with_reducible assumption|(with_reducible refine cell_hit (by(repeat' (first|with_reducible assumption|(with_reducible refine cell_par01 ?_)|(with_reducible refine cell_par10 ?_)|(with_reducible refine cell_far ?_ (by(first|(simp <;> fail)|omega|(simp;omega))))|(with_reducible refine cell_new0 pr3)|(with_reducible refine cell_new1 pr3)|(with_reducible refine cell_old ?_ (by(first|(simp <;> fail)|omega|(simp;omega))))|rw [World.cell?_drew]|(with_reducible refine cell_below (by with_reducible assumption) (by(first|(simp <;> fail)|omega|(simp;omega))) ?_)|fail))))|(with_reducible refine cell_par01 ?_)|(with_reducible refine cell_par10 ?_)|(with_reducible refine cell_far ?_ (by(first|(simp <;> fail)|omega|(simp;omega))))|(with_reducible refine cell_new0 pr3)|(with_reducible refine cell_new1 pr3)|(with_reducible refine cell_old ?_ (by(first|(simp <;> fail)|omega|(simp;omega))))|rw [World.cell?_drew]|(with_reducible refine cell_below (by with_reducible assumption) (by(first|(simp <;> fail)|omega|(simp;omega))) ?_)|fail)));have hadd:w1.cell? (ad.add 0)=some (.int .u32 y0):=hadc;have HBE1:=Lib.hid (show Below w.heap.size w w1 from blo);by_cases hlt:rc<0
  · go_wp2_with fail
    have HLT:=Lib.hid (show(z.natAbs:Int)<u.natAbs by have:=HC1.out;omega);go_meet
    case rel =>
     refine⟨⟨HF1.out,hz1,HBE1.out⟩,none,xA,0,xc,[],l,rfl,rfl,sl_nil _ _,H2.out.below HBE1.out,by simp [Dg],rdg H3.out,by simp,by omega,?_,?_⟩
     · rw [Int.ediv_eq_zero_of_lt (by omega) HLT.out];rfl
     · rw [Int.emod_eq_of_lt (by omega) HLT.out];exact rval H3.out
  · have HLT:=Lib.hid (show(u.natAbs:Int)≤z.natAbs by have:=HC1.out;omega);by_cases h1:(l'.length:Int)=1
    · have H1:=Lib.hid h1;have h1b:((l'.length:Int)==1)=true:=by simpa using h1
      have hlp:0<l'.length:=by omega
      clear h1;go_wp2_with fail
      go_region_held3 (fun W=>W.cell? ⟨w.heap.size,0,none⟩=some (.bool xb)∧W.cell? ⟨w.heap.size,1,none⟩=some (.slice xA l.length xc)∧W.cell? ⟨w.heap.size+1,0,none⟩=some (.bool yb)∧W.cell? ⟨w.heap.size+1,1,none⟩=some (.slice (some ad) l'.length yc)∧W.cell? ad=some (.int .u32 y0))
       (exact⟨(HF1.out.go blo).get 0 rfl,(HF1.out.go blo).get 1 rfl,(HF1.out.go blo).get 2 rfl,(HF1.out.go blo).get 3 rfl,cell_below (show Below w1.heap.size w1 _ from blo) (by omega) hadc⟩)
       (first
        | (go_at_call 117;go_must (with_reducible refine(c_small (P:=(Ex (Ex P (w.heap.size+1+1)) (w.heap.size+1+1+1))) (H2.out.below blo) (rdg H3.out) (by omega) (by have:=HY1.out (by have:=H1.out;omega);omega) (HP.out _ blo (by first|omega|(simp;omega)))).mono ?_);rintro e w2 ⟨Aq,cq,q,m,rfl,hsq,hdq,hlq,hm,hvq,hb2⟩;have HSQ:=Lib.hid hsq;have HDQ:=Lib.hid hdq;have HLQ:=Lib.hid hlq;have HM:=Lib.hid hm;have HVQ:=Lib.hid hvq;clear hsq hdq hlq hm hvq;have HF2:=Lib.hid (show Fr _ _ w2 from HF1.out.go blo);have hz2:=HF2.out.1;obtain⟨q2_0_0,q2_0_1,q2_1_0,q2_1_1,q2_2_0,q2_2_1,q2_3_0,q2_3_1,-⟩:=HF2.out.alls 0 8;obtain⟨z2_2_0,z2_2_1,z2_3_0,z2_3_1,-⟩:=HF2.out.falls 4 4;have hadc2:w2.cell? ad=some (.int .u32 y0):=(by(repeat' (first|with_reducible assumption|(with_reducible refine cell_hit (by(repeat' (first|with_reducible assumption|(with_reducible refine cell_par01 ?_)|(with_reducible refine cell_par10 ?_)|(with_reducible refine cell_far ?_ (by(first|(simp <;> fail)|omega|(simp;omega))))|(with_reducible refine cell_new0 pr3)|(with_reducible refine cell_new1 pr3)|(with_reducible refine cell_old ?_ (by(first|(simp <;> fail)|omega|(simp;omega))))|rw [World.cell?_drew]|(with_reducible refine cell_below (by with_reducible assumption) (by(first|(simp <;> fail)|omega|(simp;omega))) ?_)|fail))))|(with_reducible refine cell_par01 ?_)|(with_reducible refine cell_par10 ?_)|(with_reducible refine cell_far ?_ (by(first|(simp <;> fail)|omega|(simp;omega))))|(with_reducible refine cell_new0 pr3)|(with_reducible refine cell_new1 pr3)|(with_reducible refine cell_old ?_ (by(first|(simp <;> fail)|omega|(simp;omega))))|rw [World.cell?_drew]|(with_reducible refine cell_below (by with_reducible assumption) (by(first|(simp <;> fail)|omega|(simp;omega))) ?_)|fail)))))
      go_wp2_with fail
      have HBE2:=Lib.hid (show Below w.heap.size w w2 from blo);have hy2:(u.natAbs:Int)=y0∧0<y0∧y0<4294967296:=HY1.out (by have:=H1.out;omega);have hv0:=HVQ.out;rw [rval H3.out,←hy2.1]at hv0;have hm0:=HM.out;have hq1:(z.natAbs:Int)/u.natAbs=val B q∧(z.natAbs:Int)%u.natAbs=m:=div_fin (f:=1) (R:=m) (m:=0) (by omega) (by omega) (by simp only [Int.mul_one];omega) (by simp only [Int.mul_one];omega) hm0.1 (by simp only [Int.mul_one];omega) (by omega) (by omega);have hmB:m<1000000000:=by
       have h8:(u.natAbs:Int)<1000000000:=by
        have h9:=H3'.out;have h10:l'.length=1:=by have:=H1.out;omega
        obtain⟨a,rfl⟩:∃a,l'= [a]:=by
         cases l' with
         | nil=>simp at h10
         | cons a t=>exact ⟨a,by simp at h10;simp [h10]⟩
        have h11:=h9.2.2;have h12:=(h9.1 a (by simp)).2;simp [val]at h11
        have:B=1000000000:=rfl;omega
       omega
      go_meet
      case rel =>
       refine⟨⟨HF2.out.go (bl_alloc (Below.refl _ _) _),by simp;omega,HBE2.out.alloc HBE2.out.size _⟩,Aq,some ⟨w2.heap.size,0,none⟩,cq,1,q,[m],rfl,rfl,HSQ.out.below (bl_alloc (Below.refl _ _) _),sl_one (HP.out _ HBE2.out hz2) m,HDQ.out,?_,by have:=HLQ.out;omega,by simp,?_,?_⟩
       · intro a ha;simp at ha;subst ha;exact⟨hm0.1,hmB⟩
       · exact hq1.1.symm
       · rw [hq1.2];simp [val]
    · go_wp2_with fail
      go_at_call 118
      refine(c_divide (P:=(Ex (Ex P (w.heap.size+1+1)) (w.heap.size+1+1+1))) (K:=K) (H2.out.below blo) (H2'.out.below blo) H3.out H3'.out (by omega) HLT.out (by simpa using HZK.out) (by omega) (HP.out _ blo (by omega))).mono ?_;rintro e w2 ⟨Aq,Ar,cq,cr,q,r,rfl,hsq,hsr,hrq,hrr,hb2⟩;have HSQ:=Lib.hid hsq;have HSR:=Lib.hid hsr;have HRQ:=Lib.hid hrq;have HRR:=Lib.hid hrr;clear hsq hsr hrq hrr;have HF2:=Lib.hid (show Fr _ _ w2 from HF1.out.go blo);have hz2:=HF2.out.1;obtain⟨q2_0_0,q2_0_1,q2_1_0,q2_1_1,q2_2_0,q2_2_1,q2_3_0,q2_3_1,-⟩:=HF2.out.alls 0 8;obtain⟨z2_2_0,z2_2_1,z2_3_0,z2_3_1,-⟩:=HF2.out.falls 4 4;have HBE2:=Lib.hid (show Below w.heap.size w w2 from blo);have hzu:(z.natAbs:Int)/u.natAbs≤z.natAbs:=Int.ediv_le_self _ (by omega);have hzu0:0≤(z.natAbs:Int)/u.natAbs:=Int.ediv_nonneg (by omega) (by omega);have hzm:(z.natAbs:Int)%u.natAbs<u.natAbs:=Int.emod_lt_of_pos _ (by omega);have hzm0:0≤(z.natAbs:Int)%u.natAbs:=Int.emod_nonneg _ (by omega);have hlq:q.length≤K+1:=rep_len HRQ.out (Nat.lt_of_le_of_lt (by omega) HZK.out);have hlr:r.length≤K+1:=rep_len HRR.out (Nat.lt_of_le_of_lt (by omega) HUK.out);go_wp2_with fail
      go_meet
      case rel =>
       exact⟨⟨HF2.out,hz2,HBE2.out⟩,Aq,Ar,cq,cr,q,r,rfl,rfl,HSQ.out,HSR.out,rdg HRQ.out,rdg HRR.out,hlq,hlr,rval HRQ.out,rval HRR.out⟩
 case rest =>
  obtain⟨HT,Aq,Ar,cq,cr,q,r,HW⟩:=hcut;have HW:=Lib.hid HW;have HF:=Lib.hid (show Fr [(w.heap.size,0,.bool xb),(w.heap.size,1,.slice xA l.length xc),(w.heap.size+1,0,.bool yb),(w.heap.size+1,1,.slice (some ad) l'.length yc),(w.heap.size+1+1,0,.bool false),(w.heap.size+1+1,1,.slice none 0 0),(w.heap.size+1+1+1,0,.bool false),(w.heap.size+1+1+1,1,.slice none 0 0)] (w.heap.size+1+1+1+1) wc from HT.fb);have HBE:=Lib.hid HT.be;have hsz:=HT.sz;clear HT hcell;obtain rfl:=HW.out.e6;obtain rfl:=HW.out.e7;have hVQ:((z.tdiv u).natAbs:Int)=val B q:=by rw [HW.out.vq,Int.natAbs_tdiv];exact Int.natCast_ediv _ _
  have hVR:((z.tmod u).natAbs:Int)=val B r:=by rw [HW.out.vr,Int.natAbs_tmod];exact Int.natCast_emod _ _
  have hMQ:(!(xb==yb))=decide (z.tdiv u<0)∨z.tdiv u=0:=by rw [HXB.out,HYB.out];exact tdiv_sign z u hu
  have hMR:xb=decide (z.tmod u<0)∨z.tmod u=0:=by rw [HXB.out];exact tmod_sign z u
  have hKQ:(z.tdiv u).natAbs<1000000000^K:=Nat.lt_of_le_of_lt (by rw [Int.natAbs_tdiv];exact Nat.div_le_self _ _) HZK.out;have hKR:(z.tmod u).natAbs<1000000000^K:=Nat.lt_of_le_of_lt (by rw [Int.natAbs_tmod];exact Nat.mod_le _ _) HZK.out;have HALL:=Lib.hid (And.intro hVQ (And.intro hVR (And.intro hMQ (And.intro hMR (And.intro hKQ hKR)))));clear hVQ hVR hMQ hMR hKQ hKR;go_upto_region 9 with fail
  refine div_r9 (P:=(Ex (Ex P (w.heap.size+1+1)) (w.heap.size+1+1+1))) (K:=K) (HF.out.get 0 rfl) (HF.out.get 2 rfl) (by omega) (by omega) HW.out.sq HW.out.sr HW.out.dq HW.out.dr (by have:=HW.out.lq;omega) (by have:=HW.out.lr;omega) HALL.out.1 HALL.out.2.1 HALL.out.2.2.1 HALL.out.2.2.2.1 HALL.out.2.2.2.2.1 HALL.out.2.2.2.2.2 (HP.out wc HBE.out hsz) ?_;intro g9 g10 qv rv t45 t46 t47 t48 t49 t50 t51 t52 t53 t54 t55 W hM;have HM:=Lib.hid hM;have HFW:=Lib.hid (show Fr [(w.heap.size+1,0,.bool yb),(w.heap.size+1,1,.slice (some ad) l'.length yc),(w.heap.size+1+1,0,.bool false),(w.heap.size+1+1,1,.slice none 0 0),(w.heap.size+1+1+1,0,.bool false),(w.heap.size+1+1+1,1,.slice none 0 0)] (w.heap.size+1+1+1+1) W from HF.out.tail.tail.go hM.be);have hne:=hM.ne;have hge9:w.heap.size+4≤g9:=Nat.le_trans hsz hM.ge9;have hge10:w.heap.size+4≤g10:=Nat.le_trans hsz hM.ge10;have hlt9:=hM.lt9;have hlt10:=hM.lt10;have HBW:=Lib.hid (bl_call HBE.out hM.be);have HYW:=Lib.hid (show IsW (Ex (Ex (Ex (Ex P (w.heap.size+1+1)) (w.heap.size+1+1+1)) g9) g10) K w ⟨yb,some ad,l'.length,yc⟩ u from IsW.ex (IsW.ex ⟨⟨l',rfl,H2'.out,H3'.out,by simpa using HUK.out⟩,HYB.out⟩ (by omega)) (by omega));have HPW:=Lib.hid (show ∀W':World,Below w.heap.size w W'→W.heap.size≤W'.heap.size→∀k,W'.heap.size≤k→Ex (Ex (Ex (Ex P (w.heap.size+1+1)) (w.heap.size+1+1+1)) g9) g10 k from fun W' hb hs=>ex2 (HP.out W' hb (by omega)) (by omega) (by omega));clear hM;by_cases hneg:z.tmod u<0
  · have hrb:=HM.out.hr.2;obtain⟨rb,rA,rn,rc⟩:=rv;obtain rfl:rb=true:=by simpa [hneg]using hrb
    have HNG:=Lib.hid (mend_neg hu hneg);have hsg: -1≤u.sign∧u.sign≤1:=by
     rcases Int.lt_trichotomy u 0 with h|h|h
     · rw [Int.sign_eq_neg_one_of_neg h];omega
     · exact absurd h hu
     · rw [Int.sign_eq_one_of_pos h];omega
    have HB2:=Lib.hid (show(z.tdiv u-u.sign).natAbs<1000000000^(K+1) by
     have h1:=HALL.out.2.2.2.2.1;have h2:0<1000000000^K:=Nat.pow_pos (by decide)
     rw [Nat.pow_succ];omega)
    clear hrb hneg;have c100:=HM.out.c10.get 0 rfl;simp only at c100
    go_upto_region 11 with fail
    refine div_r11 (P:=Ex (Ex (Ex (Ex P (w.heap.size+1+1)) (w.heap.size+1+1+1)) g9) g10) (K:=K) (g:=g10) (bz:=w.heap.size+1) (yv:=⟨yb,some ad,l'.length,yc⟩) (rv:=⟨true,rA,rn,rc⟩) (u:=u) (zr:=z.tmod u) ⟨by omega,fun x hx=>by simp only [List.mem_cons,List.not_mem_nil,or_false]at hx;obtain⟨h1,h2,h3⟩:=HFW.out.2 x (by simp only [List.mem_cons,List.not_mem_nil,or_false];rcases hx with rfl|rfl;exact .inl rfl;exact .inr (.inl rfl));exact⟨by rcases hx with rfl|rfl <;> simp,h2,h3⟩⟩ HM.out.c10 (HYW.out.below HBW.out) HM.out.hr (by omega) (HPW.out W HBW.out (Nat.le_refl _)) (fun k hk=>hk.2) ?_;intro r1 t58 t59 t60 t61 W1 hr1 hf1 hk1;have HFW1:=Lib.hid (HFW.out.kp hk1 (by simp;omega));have C9W1:=Lib.hid (HM.out.c9.kp hk1 (by simp;omega));have HBW1:=Lib.hid (hk1.below HBW.out (by omega));have HQ1:=Lib.hid (HM.out.hq.kp hk1 (fun k hk=>hk.2));have HR1:=Lib.hid hr1;have C10W1:=Lib.hid hf1;have hs1:=hk1.size;clear hr1 hf1 hk1 c100;go_upto_region 12 with fail
    refine div_r12 (P:=Ex (Ex (Ex (Ex P (w.heap.size+1+1)) (w.heap.size+1+1+1)) g9) g10) (K:=K) (g:=g9) (bz:=w.heap.size+1) (yv:=⟨yb,some ad,l'.length,yc⟩) (rv:=qv) (u:=u) (zr:=z.tdiv u) ⟨by omega,fun x hx=>by simp only [List.mem_cons,List.not_mem_nil,or_false]at hx;obtain⟨h1,h2,h3⟩:=HFW1.out.2 x (by simp only [List.mem_cons,List.not_mem_nil,or_false];rcases hx with rfl|rfl;exact .inl rfl;exact .inr (.inl rfl));exact⟨by rcases hx with rfl|rfl <;> simp,h2,h3⟩⟩ C9W1.out (HYW.out.below HBW1.out) HQ1.out (by omega) (HPW.out W1 HBW1.out hs1) (fun k hk=>hk.1.2) ?_;intro q1 t62 t63 t64 t65 t66 W2 hq2 hf2 hk2;have HFE:=Lib.hid (HFW1.out.kp hk2 (by simp;omega));have C10E:=Lib.hid (C10W1.out.kp hk2 (by simp;omega));have C9E:=Lib.hid hf2;have HBEE:=Lib.hid (hk2.below HBW1.out (by omega));have HRE:=Lib.hid (show IsW (Ex (Ex (Ex (Ex P (w.heap.size+1+1)) (w.heap.size+1+1+1)) g9) g10) (K+1) W2 r1 (z%u)from HNG.out.1▸(HR1.out.kp hk2 (fun k hk=>hk.1.2)));have HQE:=Lib.hid (show IsW (Ex (Ex (Ex (Ex P (w.heap.size+1+1)) (w.heap.size+1+1+1)) g9) g10) (K+1) W2 q1 (z/u)from HNG.out.2▸(hq2.tight HB2.out));have hs2:=hk2.size;clear hq2 hf2 hk2;have r0:=HFE.out.get 2 rfl;have r1':=HFE.out.get 3 rfl;have s0:=HFE.out.get 4 rfl;have s1:=HFE.out.get 5 rfl;obtain⟨fr0,fr1,fs0,fs1,-⟩:=HFE.out.falls 2 4;have c90:=C9E.out.get 0 rfl;have c91:=C9E.out.get 1 rfl;have c100:=C10E.out.get 0 rfl;have c101:=C10E.out.get 1 rfl;(try simp only at c90 c91 c100 c101)
    have hge9':=hge9;have hge10':=hge10;have hne':=hne.symm;go_wp2_with fail
    go_region
    go_wp2_with fail
    refine bodyPost_ret (v:=.tuple #[.agg #[.bool q1.b,.slice q1.A q1.n q1.c],.agg #[.bool r1.b,.slice r1.A r1.n r1.c]]) (by simp [results,Tryz.results100,go_sem, *]) rfl ⟨q1,⟨r1.b,r1.A,r1.n,r1.c⟩,rfl,?_,?_,?_⟩
    · exact IsW.mono (IsW.drw (IsW.setp (IsW.setp (IsW.setp (IsW.setp (HQE.out.mono (fun _ hk=>hk.1.1)) (fun k hk=>hk.1.2)) (fun k hk=>hk.1.2)) (fun k hk=>hk.2)) (fun k hk=>hk.2))) (fun _ hk=>hk.1.1)
    · exact IsW.mono (IsW.drw (IsW.setp (IsW.setp (IsW.setp (IsW.setp (HRE.out.mono (fun _ hk=>hk.1.1)) (fun k hk=>hk.1.2)) (fun k hk=>hk.1.2)) (fun k hk=>hk.2)) (fun k hk=>hk.2))) (fun _ hk=>hk.1.1)
    · have hbe9:=HBEE.out;exact blo
  · have HPS:=Lib.hid (mend_pos hu hneg);have hrb:=HM.out.hr.2;obtain⟨rb,rA,rn,rc⟩:=rv;obtain rfl:rb=false:=by simpa [hneg]using hrb
    clear hrb hneg;have HFE:=Lib.hid HFW.out;have C9E:=Lib.hid HM.out.c9;have C10E:=Lib.hid HM.out.c10;have HBEE:=Lib.hid HBW.out;have HQE:=Lib.hid (show IsW (Ex (Ex (Ex (Ex P (w.heap.size+1+1)) (w.heap.size+1+1+1)) g9) g10) (K+1) W qv (z/u)from HPS.out.2▸HM.out.hq.wide (Nat.le_succ K));have HRE:=Lib.hid (show IsW (Ex (Ex (Ex (Ex P (w.heap.size+1+1)) (w.heap.size+1+1+1)) g9) g10) (K+1) W ⟨false,rA,rn,rc⟩ (z%u)from HPS.out.1▸HM.out.hr.wide (Nat.le_succ K));have r0:=HFE.out.get 2 rfl;have r1':=HFE.out.get 3 rfl;have s0:=HFE.out.get 4 rfl;have s1:=HFE.out.get 5 rfl;obtain⟨fr0,fr1,fs0,fs1,-⟩:=HFE.out.falls 2 4;have c90:=C9E.out.get 0 rfl;have c91:=C9E.out.get 1 rfl;have c100:=C10E.out.get 0 rfl;have c101:=C10E.out.get 1 rfl;(try simp only at c90 c91 c100 c101)
    have hge9':=hge9;have hge10':=hge10;have hne':=hne.symm;go_wp2_with fail
    go_region
    go_wp2_with fail
    refine bodyPost_ret (v:=.tuple #[.agg #[.bool qv.b,.slice qv.A qv.n qv.c],.agg #[.bool false,.slice rA rn rc]]) (by simp [results,Tryz.results100,go_sem, *]) rfl ⟨qv,⟨false,rA,rn,rc⟩,rfl,?_,?_,?_⟩
    · exact IsW.mono (IsW.drw (IsW.setp (IsW.setp (IsW.setp (IsW.setp (HQE.out.mono (fun _ hk=>hk.1.1)) (fun k hk=>hk.1.2)) (fun k hk=>hk.1.2)) (fun k hk=>hk.2)) (fun k hk=>hk.2))) (fun _ hk=>hk.1.1)
    · exact IsW.mono (IsW.drw (IsW.setp (IsW.setp (IsW.setp (IsW.setp (HRE.out.mono (fun _ hk=>hk.1.1)) (fun k hk=>hk.1.2)) (fun k hk=>hk.1.2)) (fun k hk=>hk.2)) (fun k hk=>hk.2))) (fun _ hk=>hk.1.1)
    · have hbe9:=HBEE.out;exact blo
end
theorem c_Div{P:Nat→Prop}{K:Nat}{w:World}{x y:WV}{z u:Int}(hx:IsW P K w x z)(hy:IsW P K w y u)(hK:K≤10000000000)(hP:∀k,w.heap.size≤k→P k)(hu:u≠0) :
 Calls Tryz.prog 100 #[.agg #[.bool x.b,.slice x.A x.n x.c],.agg #[.bool y.b,.slice y.A y.n y.c]] w fun e w'=>∃q r:WV,e=.returned (.tuple #[.agg #[.bool q.b,.slice q.A q.n q.c],.agg #[.bool r.b,.slice r.A r.n r.c]])∧IsW P (K+1) w' q (z/u)∧IsW P (K+1) w' r (z%u)∧Below w.heap.size w w':=by
 obtain⟨⟨l,h1,h2,h3,h4⟩,h5⟩:=hx
 obtain⟨⟨l',h1',h2',h3',h4'⟩,h5'⟩:=hy
 simp only [Int.natAbs_natCast]at h4 h4'
 exact div_walk h1 h1' h5 h5' h2 h2' (rep_len h3 (by simpa using h4)) (rep_len h3' (by simpa using h4')) h3 h3' h4 h4' hK hP hu
end Go.Proofs.YtpdghgfbfmaplaaGreatDoor.Wh
end
