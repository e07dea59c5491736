/- Lemmas for RatLists. -/
import Derived.Test.YtpdghgfbfmaplaaGreatDoorZWhK
set_option maxRecDepth 100000
set_option maxHeartbeats 8000000
section
set_option linter.unusedVariables false
set_option linter.unusedSimpArgs false
namespace Go.Proofs.YtpdghgfbfmaplaaGreatDoor.Wh
open Go.RowKit Go.Proofs.YtpdghgfbfmaplaaGreatDoorW.PrintWords Go.Proofs.YtpdghgfbfmaplaaGreatDoor.Num Go.Proofs.YtpdghgfbfmaplaaGreatDoor.PWhole Go.Proofs.YtpdghgfbfmaplaaGreatDoor.WhC
def Gp(P:Nat→Prop)(s n:Nat):Nat→Prop:=fun k=>P k∧(k<s∨s+n≤k)
section
variable {P:Nat→Prop} {K s n:Nat} {w W:World} {x:WV} {z:Int} {v:Value} {l:List Int}
theorem IsW.gap(h:IsW P K w x z)(n:Nat):IsW (Gp P w.heap.size n) K w x z:=h.bound.mono (fun k hk=>⟨hk.1,.inl hk.2⟩)
theorem Sl.gap(h:Sl P w v l)(n:Nat):Sl (Gp P w.heap.size n) w v l:=(Sl.bound h).mono (fun k hk=>⟨hk.1,.inl hk.2⟩)
theorem IsW.ungap(h:IsW (Gp P s n) K w x z):IsW P K w x z:=h.mono (fun k hk=>hk.1)
theorem gap_ne{k p:Nat}(hk:Gp P s n k)(h1:s≤p)(h2:p<s+n):k≠p:=by have:=hk.2;omega
theorem gap_fresh(hP:∀k,w.heap.size≤k→P k)(hb:Below w.heap.size w W)(hs:w.heap.size+n≤W.heap.size):∀k,W.heap.size≤k→Gp P w.heap.size n k:=fun k hk=>⟨hP k (Nat.le_trans hb.size hk),.inr (Nat.le_trans hs hk)⟩
theorem IsW.put(h:IsW (Gp P s n) K w x z){p:Addr}(u:Value)(h1:s≤p.block)(h2:p.block<s+n):IsW (Gp P s n) K (w.setCell p u) x z:=h.setp (fun k hk=>gap_ne hk h1 h2)
end
theorem ne2(n:Nat):¬n+1+1=n:=by omega
theorem ne3(n:Nat):¬n+1+1+1=n:=by omega
theorem en2(n:Nat):¬n=n+1+1:=by omega
theorem en3(n:Nat):¬n=n+1+1+1:=by omega
theorem Fr.sets{L:List (Nat×Nat×Value)}{s:Nat}{W:World}(b j:Nat)(v:Value)(h:Fr L s W):Fr (L.map (fun x=>if x.1=b∧x.2.1=j then(b,j,v)else x)) s (W.setCell ⟨b,j,none⟩ v):=by
 refine⟨by have:=h.1;simpa [World.setCell]using this,fun x hx=>?_⟩
 obtain⟨y,hy,rfl⟩:=List.mem_map.1 hx
 obtain⟨h1,h2,h3⟩:=h.2 y hy
 by_cases hc:y.1=b∧y.2.1=j
 · rw [if_pos hc];obtain⟨rfl,rfl⟩:=hc;exact⟨h1,cell_hit h2,by rw [World.frozen?_setCell];exact h3⟩
 · rw [if_neg hc];refine⟨h1,?_,by rw [World.frozen?_setCell];exact h3⟩;rw [World.cell?_setCell_other (h:=fun e=>hc (by injection e with e1 e2;exact⟨e1.symm,e2.symm⟩))];exact h2
theorem Fr.eq{L L':List (Nat×Nat×Value)}{s:Nat}{W:World}(h:Fr L s W)(e:L=L'):Fr L' s W:=e▸h
theorem gcd_r1{P:Nat→Prop}{K:Nat}{w wc:World}{Q:Exit→Act→World→Prop}{x y:WV}{z u:Int}{s0 s1 s4 s5 s6 s7 s8 s9 s10 s11 s12 s13 s14 s15 s16 s17 s18 s19 s20 s21 s22:Value}
 (hf:Fr [(w.heap.size,0,.bool x.b),(w.heap.size,1,.slice x.A x.n x.c),(w.heap.size+1,0,.bool y.b),(w.heap.size+1,1,.slice y.A y.n y.c),(w.heap.size+1+1,0,.bool false),(w.heap.size+1+1,1,.slice none 0 0)] (w.heap.size+1+1+1) wc) (hb:Below w.heap.size w wc) (hX:IsW (Gp P w.heap.size 3) K wc x z) (hY:IsW (Gp P w.heap.size 3) K wc y u)
 (hQ:∀(x1 y1:WV) (t7 t8 t9 t10:Value) (W:World),IsW (Gp P w.heap.size 3) K W x1 (z.natAbs:Int)→IsW (Gp P w.heap.size 3) K W y1 (u.natAbs:Int)→Fr [(w.heap.size,0,.bool x1.b),(w.heap.size,1,.slice x1.A x1.n x1.c),(w.heap.size+1,0,.bool y1.b),(w.heap.size+1,1,.slice y1.A y1.n y1.c),(w.heap.size+1+1,0,.bool false),(w.heap.size+1+1,1,.slice none 0 0)] (w.heap.size+1+1+1) W→Below w.heap.size w W→Q .normal ⟨#[s0,s1,.pointer (some ⟨w.heap.size,0,none⟩),.pointer (some ⟨w.heap.size+1,0,none⟩),s4,s5,s6,t7,t8,t9,t10,s11,s12,s13,s14,s15,s16,s17,s18,s19,s20,s21,s22],[]⟩ W) :
 Code.wp Tryz.prog ((Tryz.f81.body.bind (regOf 1)).getD .skip) Q ⟨#[s0,s1,.pointer (some ⟨w.heap.size,0,none⟩),.pointer (some ⟨w.heap.size+1,0,none⟩),s4,s5,s6,s7,s8,s9,s10,s11,s12,s13,s14,s15,s16,s17,s18,s19,s20,s21,s22],[]⟩ wc:=by
 have HQ:=Lib.hid hQ
 have HX:=Lib.hid hX
 have HY:=Lib.hid hY
 have HF:=Lib.hid hf
 have HB:=Lib.hid hb
 have hsz:w.heap.size+1+1+1≤wc.heap.size:=hf.1
 have q0_0:=hf.get 0 rfl
 have q0_1:=hf.get 1 rfl
 have q0_2:=hf.get 2 rfl
 have q0_3:=hf.get 3 rfl
 have q0_4:=hf.get 4 rfl
 have q0_5:=hf.get 5 rfl
 have fq0_0:=hf.frz 0 rfl
 have fq0_1:=hf.frz 1 rfl
 have fq0_2:=hf.frz 2 rfl
 have fq0_3:=hf.frz 3 rfl
 have fq0_4:=hf.frz 4 rfl
 have fq0_5:=hf.frz 5 rfl
 clear hQ hX hY hf hb
 conv=>arg 2;whnf
 go_region_with (first
  | (go_at_call_of 113 (Value.agg #[.bool x.b,.slice x.A x.n x.c]);go_must (with_reducible refine(c_Abs (P:=Gp P w.heap.size 3) (HX.out.below blo)).mono ?_);rintro e w1 ⟨xa,rfl,hxa,hb1⟩;have HXA:=Lib.hid hxa;clear hxa;have HF1:=Lib.hid (show Fr [(w.heap.size,0,.bool x.b),(w.heap.size,1,.slice x.A x.n x.c),(w.heap.size+1,0,.bool y.b),(w.heap.size+1,1,.slice y.A y.n y.c),(w.heap.size+1+1,0,.bool false),(w.heap.size+1+1,1,.slice none 0 0)] (w.heap.size+1+1+1) w1 from HF.out.below (show Below wc.heap.size wc w1 from blo) HF.out.1);obtain⟨_,_,_,_,_,_,-⟩:=HF1.out.alls 0 6;obtain⟨fq1_0,fq1_1,fq1_2,fq1_3,fq1_4,fq1_5,-⟩:=HF1.out.falls 0 6;have hz1:w.heap.size+1+1+1≤w1.heap.size:=HF1.out.1)
  | (go_at_call_of 113 (Value.agg #[.bool y.b,.slice y.A y.n y.c]);go_must (with_reducible refine(c_Abs (P:=Gp P w.heap.size 3) (HY.out.below blo)).mono ?_);rintro e w2 ⟨ya,rfl,hya,hb2⟩;have HYA:=Lib.hid hya;clear hya;have HF2:=Lib.hid (show Fr [(w.heap.size,0,.bool x.b),(w.heap.size,1,.slice x.A x.n x.c),(w.heap.size+1,0,.bool y.b),(w.heap.size+1,1,.slice y.A y.n y.c),(w.heap.size+1+1,0,.bool false),(w.heap.size+1+1,1,.slice none 0 0)] (w.heap.size+1+1+1) w2 from HF.out.below (show Below wc.heap.size wc w2 from blo) HF.out.1);obtain⟨_,_,_,_,_,_,-⟩:=HF2.out.alls 0 6;obtain⟨fq2_0,fq2_1,fq2_2,fq2_3,fq2_4,fq2_5,-⟩:=HF2.out.falls 0 6;have hz2:w.heap.size+1+1+1≤w2.heap.size:=HF2.out.1))
 all_goals (refine HQ.out xa ya _ _ _ _ _ ?_ ?_ ((((HF2.out.sets _ _ _).sets _ _ _).sets _ _ _).sets _ _ _ |>.eq (by simp [ne2,ne3,en2,en3])) ?_)
 all_goals first
  | exact((((HXA.out.below hb2).put _ (by simp) (by simp)).put _ (by simp) (by simp)).put _ (by simp) (by simp)).put _ (by simp) (by simp)
  | exact(((HYA.out.put _ (by simp) (by simp)).put _ (by simp) (by simp)).put _ (by simp) (by simp)).put _ (by simp) (by simp)
  | (have HB2:=bl_call HB.out (show Below wc.heap.size wc w2 from blo);exact blo)
def GcdRel(P:Nat→Prop)(K:Nat)(w:World)(z u:Int)(n:Nat)(W:World):Prop :=
 ∃(x y:WV) (a b:Nat),IsW (Gp P w.heap.size 3) K W x a∧IsW (Gp P w.heap.size 3) K W y b∧Fr [(w.heap.size,0,.bool x.b),(w.heap.size,1,.slice x.A x.n x.c),(w.heap.size+1,0,.bool y.b),(w.heap.size+1,1,.slice y.A y.n y.c),(w.heap.size+1+1,0,.bool false),(w.heap.size+1+1,1,.slice none 0 0)] (w.heap.size+1+1+1) W∧Below w.heap.size w W∧Nat.gcd a b=Int.gcd z u∧n=b
section
variable {P:Nat→Prop} {K:Nat} {w:World}
theorem c_Gcd{x y:WV}{z u:Int}(hx:IsW P K w x z)(hy:IsW P K w y u)(hK:K≤10000000000)(hP:∀k,w.heap.size≤k→P k) :
 Calls Tryz.prog 81 #[.agg #[.bool x.b,.slice x.A x.n x.c],.agg #[.bool y.b,.slice y.A y.n y.c]] w fun e w'=>∃r:WV,e=.returned (.agg #[.bool r.b,.slice r.A r.n r.c])∧IsW P K w' r (Int.gcd z u:Int)∧Below w.heap.size w w':=by
 have HX:=Lib.hid (hx.gap 3)
 have HY:=Lib.hid (hy.gap 3)
 have HP:=Lib.hid hP
 clear hx hy hP
 go_enter Tryz.func81,Tryz.ntmps81
 go_upto_region 1 with fail
 have hF0:Fr [(w.heap.size,0,.bool x.b),(w.heap.size,1,.slice x.A x.n x.c),(w.heap.size+1,0,.bool y.b),(w.heap.size+1,1,.slice y.A y.n y.c),(w.heap.size+1+1,0,.bool false),(w.heap.size+1+1,1,.slice none 0 0)] (w.heap.size+1+1+1) (((w.alloc (.cells #[.bool x.b,.slice x.A x.n x.c] 50)).alloc (.cells #[.bool y.b,.slice y.A y.n y.c] 50)).alloc (.cells #[.bool false,.slice none 0 0] 50)):=(Fr.cons (Fr.cons (Fr.cons (Fr.cons (Fr.cons (Fr.cons (Fr.nil (by simp)) (by omega) (by go_simp) (by go_simp)) (by omega) (by go_simp) (by go_simp)) (by omega) (by go_simp) (by go_simp)) (by omega) (by go_simp) (by go_simp)) (by omega) (by go_simp) (by go_simp)) (by omega) (by go_simp) (by go_simp))
 refine gcd_r1 (P:=P) (K:=K) (w:=w) (x:=x) (y:=y) (z:=z) (u:=u) hF0 blo (HX.out.below blo) (HY.out.below blo) ?_
 intro x1 y1 t7 t8 t9 t10 W hx1 hy1 hf1 hb1
 have HG:=Lib.hid (show GcdRel P K w z u u.natAbs W from⟨x1,y1,z.natAbs,u.natAbs,hx1,hy1,hf1,hb1,rfl,rfl⟩)
 clear hF0 hx1 hy1 hf1 hb1
 go_wp2_with fail
 go_loopg [] u.natAbs (fun n W=>GcdRel P K w z u n W)
 case atStart=>exact HG.out
 case round =>
  obtain⟨xv,yv,a,b,hxv,hyv,hf,hb,hg,hn⟩:=hrel;have hsz:w.heap.size+1+1+1≤wr.heap.size:=hf.1;have q0_0:=hf.get 0 rfl;have q0_1:=hf.get 1 rfl;have q0_2:=hf.get 2 rfl;have q0_3:=hf.get 3 rfl;have q0_4:=hf.get 4 rfl;have q0_5:=hf.get 5 rfl;have fq0_0:=hf.frz 0 rfl;have fq0_1:=hf.frz 1 rfl;have fq0_2:=hf.frz 2 rfl;have fq0_3:=hf.frz 3 rfl;have fq0_4:=hf.frz 4 rfl;have fq0_5:=hf.frz 5 rfl;have HF:=Lib.hid hf;have HXV:=Lib.hid hxv;have HYV:=Lib.hid hyv;have HB:=Lib.hid hb;have HGC:=Lib.hid hg;subst hn;clear hf hxv hyv hb hg;by_cases hb0:gk=0
  · subst hb0;go_wp2_with fail
    refine(c_Zero HYV.out).mono ?_;rintro e w1 ⟨rfl,hb1⟩;rw [decide_eq_true (show((0:Nat):Int)=0 from rfl)];have HFZ:=Lib.hid (show Fr [(w.heap.size,0,.bool xv.b),(w.heap.size,1,.slice xv.A xv.n xv.c),(w.heap.size+1,0,.bool yv.b),(w.heap.size+1,1,.slice yv.A yv.n yv.c),(w.heap.size+1+1,0,.bool false),(w.heap.size+1+1,1,.slice none 0 0)] (w.heap.size+1+1+1) w1 from HF.out.go hb1);obtain⟨q1_0,q1_1,q1_2,q1_3,q1_4,q1_5,-⟩:=HFZ.out.alls 0 6;obtain⟨fq1_0,fq1_1,fq1_2,fq1_3,fq1_4,fq1_5,-⟩:=HFZ.out.falls 0 6;have HB1:=Lib.hid (bl_call HB.out hb1);go_wp2_with fail
    have hz1:=HFZ.out.1;refine bodyPost_ret (v:=.agg #[.bool xv.b,.slice xv.A xv.n xv.c]) (by simp [results,Tryz.results81,go_sem,q1_4,q1_5]) rfl ⟨xv,rfl,?_,?_⟩
    · have hga:a=z.gcd u:=by rw [←HGC.out,Nat.gcd_zero_right]
      rw [←hga];exact(((HXV.out.below hb1).put _ arq arq).put _ arq arq).ungap
    · have hb9:=HB1.out;exact blo
  · go_wp2_with fail
    refine(c_Zero HYV.out).mono ?_;rintro e w1 ⟨rfl,hb1⟩;rw [decide_eq_false (show ¬((gk:Nat):Int)=0 by omega)];have HFZ:=Lib.hid (show Fr [(w.heap.size,0,.bool xv.b),(w.heap.size,1,.slice xv.A xv.n xv.c),(w.heap.size+1,0,.bool yv.b),(w.heap.size+1,1,.slice yv.A yv.n yv.c),(w.heap.size+1+1,0,.bool false),(w.heap.size+1+1,1,.slice none 0 0)] (w.heap.size+1+1+1) w1 from HF.out.go hb1);obtain⟨q1_0,q1_1,q1_2,q1_3,q1_4,q1_5,-⟩:=HFZ.out.alls 0 6;obtain⟨fq1_0,fq1_1,fq1_2,fq1_3,fq1_4,fq1_5,-⟩:=HFZ.out.falls 0 6;have hz1:=HFZ.out.1;have HB1:=Lib.hid (bl_call HB.out hb1);have HX1:=Lib.hid (HXV.out.below hb1);have HY1:=Lib.hid (HYV.out.below hb1);clear HB hb1 HXV HYV;go_wp2_with fail
    refine(c_Div (P:=Gp P w.heap.size 3) (K:=K) HX1.out HY1.out hK (gap_fresh HP.out HB1.out hz1) (by omega)).mono ?_;rintro e w2 ⟨qv,rv,rfl,hqv,hrv,hb2⟩
    have HR2:=Lib.hid (show IsW (Gp P w.heap.size 3) K w2 rv ((a%gk:Nat):Int)from by
     have h1:=(HY1.out.bd);have h2:a%gk<gk:=Nat.mod_lt _ (by omega);rw [show ((a%gk:Nat):Int)=(a:Int)%(gk:Int)from rfl]
     exact hrv.tight (by rw [show ((a:Int)%(gk:Int))=((a%gk:Nat):Int)from rfl];simp only [Int.natAbs_natCast]at h1 ⊢;omega))
    have HY2:=Lib.hid (HY1.out.below hb2);clear hqv hrv;have HFD:=Lib.hid (show Fr _ _ w2 from HFZ.out.go hb2);obtain⟨_,_,_,_,_,_,-⟩:=HFD.out.alls 0 6;obtain⟨fq2_0,fq2_1,fq2_2,fq2_3,fq2_4,fq2_5,-⟩:=HFD.out.falls 0 6;have hz2:=HFD.out.1;have HB2:=Lib.hid (bl_call HB1.out hb2);clear HB1 HX1 HY1 hb2;have hA:w.heap.size<w2.heap.size:=by omega
    have hA1:w.heap.size+1<w2.heap.size:=by omega
    have hA2:w.heap.size+1+1<w2.heap.size:=by omega
    go_wp2_with fail
    go_region
    all_goals go_wp2_with fail
    all_goals go_roundg (a%gk)
    all_goals first
     | (case measure=>exact Nat.mod_lt _ (by omega))
     | skip
    all_goals (
     refine⟨yv,rv,gk,a%gk,?_,?_,?_,?_,?_,rfl⟩
     · exact(((((HY2.out.put _ arq arq).put _ arq arq).put _ arq arq).put _ arq arq).alc).alc.drw
     · exact(((((HR2.out.put _ arq arq).put _ arq arq).put _ arq arq).put _ arq arq).alc).alc.drw
     · have hs:=(((HFD.out.sets w.heap.size 0 (.bool yv.b)).sets w.heap.size 1 (.slice yv.A yv.n yv.c)).sets (w.heap.size+1) 0 (.bool rv.b)).sets (w.heap.size+1) 1 (.slice rv.A rv.n rv.c);exact(hs.eq (by simp [ne2,ne3,en2,en3])).go blo
     · have hb9:=HB2.out;exact blo
     · rw [Nat.gcd_comm,←Nat.gcd_rec,Nat.gcd_comm];exact HGC.out)
end
end Go.Proofs.YtpdghgfbfmaplaaGreatDoor.Wh
end
