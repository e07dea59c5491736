/- Lemmas for RatLists. -/
import Derived.Test.YtpdghgfbfmaplaaGreatDoorZRatF
set_option maxRecDepth 100000
set_option maxHeartbeats 8000000
section
set_option linter.unusedVariables false
set_option linter.unusedSimpArgs false
namespace Go.Proofs.YtpdghgfbfmaplaaGreatDoor.Wh
open Go.RowKit Go.Proofs.YtpdghgfbfmaplaaGreatDoorW.PrintWords Go.Proofs.YtpdghgfbfmaplaaGreatDoor.Num Go.Proofs.YtpdghgfbfmaplaaGreatDoor.Dec
def RowC(g:Nat)(xs:List FV)(W:World):Prop:=g<W.heap.size∧∀i x,xs[i]?=some x→∀j u,(fcells x)[j]?=some u→W.cell? ⟨g,i*4+j,none⟩=some u
theorem RowC.below{g:Nat}{xs:List FV}{W W1:World}(h:RowC g xs W)(hb:Below W.heap.size W W1):RowC g xs W1 :=
 ⟨Nat.lt_of_lt_of_le h.1 hb.size,fun i x hi j u hj=>(hb.cell (p:=⟨g,i*4+j,none⟩) h.1).trans (h.2 i x hi j u hj)⟩
theorem RowC.set{g:Nat}{xs:List FV}{W:World}(h:RowC g xs W){p:Addr}(hp:p.block≠g)(u:Value):RowC g xs (W.setCell p u) :=
 ⟨by have:=h.1;simpa [World.setCell]using this,fun i x hi j v hj=>cell_far (h.2 i x hi j v hj) (by exact fun e=>hp e.symm)⟩
theorem row_c{W:World}{base g n cap:Nat}{ok:Nat→Prop}{xs:List FV}(h:Kd.R fvK 52 W base ok (.slice (some ⟨g,0,none⟩) n cap) xs):RowC g xs W :=
 ⟨(row_cells h).1,fun i x hi j u hj=>((row_cells h).2 i x hi j u hj).1⟩
theorem row_head{W:World}{base:Nat}{ok:Nat→Prop}{x:FV}{xs:List FV}{v:Value}(h:Kd.R fvK 52 W base ok v (x :: xs)):∃g c,v=.slice (some ⟨g,0,none⟩) (x :: xs).length c∧(x :: xs).length≤c:=by
 obtain⟨inner,ho⟩:=Kd.R_own h
 rcases ho.2 with ⟨_,h2⟩|⟨g,cap,cur,rfl,_,_,hc,_⟩
 · cases h2
 · exact⟨g,cap,rfl,hc⟩
theorem Fr.lit2'(W:World)(a b:Value)(t:TypeId):Fr [(W.heap.size,0,a),(W.heap.size,1,b)] (W.heap.size+1) (W.alloc (.cells #[a,b] t)):=Fr.lit2 rfl
theorem Fr.lit2d(W:World)(a b:Value)(t:TypeId):Fr [(W.heap.size,0,a),(W.heap.size,1,b)] (W.heap.size+1) (W.alloc (.cells #[a,b] t)).drew:=(Fr.lit2 rfl).go ((Below.refl _ _).drew)
theorem com_r16{wc:World}{Q:Exit→Act→World→Prop}{o y:FV}{u v:Rat}{P:Nat→Prop}{K sz g8 g10:Nat}{s0 s1 s2 s3 s4 s5 s6 s7 s9 s11 s12 s13 s14 s15 s16 s17 s18 s19 s20 s21 s22 s23 s24 s25 s26 s27 s28 s29 s30 s31 s32 s33 s34 s35 s36 s37 s38 s39 s40 s41 s42 s43 s44 s45 s46 s47 s48 s49 s50 s51 s52 s53 s54 s55 s56 s57 s58 s59 s60 s61 s62 s63 s64 s65 s66:Value}
 (hf:Fr [(g10,0,(.bool y.num.b)),(g10,1,(.slice y.num.A y.num.n y.num.c)),(g10,2,(.bool y.den.b)),(g10,3,(.slice y.den.A y.den.n y.den.c)),(g8,0,(.bool o.num.b)),(g8,1,(.slice o.num.A o.num.n o.num.c)),(g8,2,(.bool o.den.b)),(g8,3,(.slice o.den.A o.den.n o.den.c))] sz wc) (hO:IsF P K wc o u) (hY:IsF P 34 wc y v) (hK:K≤100000000) (hP:∀k,wc.heap.size≤k→P k)
 (hQ:∀(b:Nat) (d:WV) (t44 t45 t46 t47 t48:Value) (W:World),wc.heap.size≤b→Fr [(b,0,.bool d.b),(b,1,.slice d.A d.n d.c)] (b+1) W→IsW P (K+34) W d ((u.den:Int)*v.den)→Below wc.heap.size wc W→Q .normal ⟨#[s0,s1,s2,s3,s4,s5,s6,s7,(.pointer (some ⟨g8,0,none⟩)),s9,(.pointer (some ⟨g10,0,none⟩)),(.pointer (some ⟨b,0,none⟩)),s12,s13,s14,s15,s16,s17,s18,s19,s20,s21,s22,s23,s24,s25,s26,s27,s28,s29,s30,s31,s32,s33,s34,s35,s36,s37,s38,s39,s40,s41,s42,s43,t44,t45,t46,t47,t48,s49,s50,s51,s52,s53,s54,s55,s56,s57,s58,s59,s60,s61,s62,s63,s64,s65,s66],[]⟩ W) :
 Code.wp Tryz.prog ((Tryz.f35.body.bind (regOf 16)).getD .skip) Q ⟨#[s0,s1,s2,s3,s4,s5,s6,s7,(.pointer (some ⟨g8,0,none⟩)),s9,(.pointer (some ⟨g10,0,none⟩)),s11,s12,s13,s14,s15,s16,s17,s18,s19,s20,s21,s22,s23,s24,s25,s26,s27,s28,s29,s30,s31,s32,s33,s34,s35,s36,s37,s38,s39,s40,s41,s42,s43,s44,s45,s46,s47,s48,s49,s50,s51,s52,s53,s54,s55,s56,s57,s58,s59,s60,s61,s62,s63,s64,s65,s66],[]⟩ wc:=by
 have HQ:=Lib.hid hQ
 have HP:=Lib.hid hP
 have HO:=Lib.hid hO
 have HY:=Lib.hid hY
 have HF:=Lib.hid hf
 have HK:=Lib.hid hK
 have hsz:sz≤wc.heap.size:=hf.1
 clear hQ hO hY hf hK hP
 conv=>arg 2;whnf
 refine wp_region_noPanic ?_
 refine OrdL.begin_ (S:=fun W=>W.cell? ⟨g10,0,none⟩=some (.bool y.num.b)∧W.cell? ⟨g10,1,none⟩=some (.slice y.num.A y.num.n y.num.c)∧W.cell? ⟨g10,2,none⟩=some (.bool y.den.b)∧W.cell? ⟨g10,3,none⟩=some (.slice y.den.A y.den.n y.den.c)∧W.cell? ⟨g8,0,none⟩=some (.bool o.num.b)∧W.cell? ⟨g8,1,none⟩=some (.slice o.num.A o.num.n o.num.c)∧W.cell? ⟨g8,2,none⟩=some (.bool o.den.b)∧W.cell? ⟨g8,3,none⟩=some (.slice o.den.A o.den.n o.den.c)) [] [] (by kernel_rfl) ?_ (fun hHeld=>?_)
 focus ((try dsimp only);exact⟨(HF.out.go blq).get 0 rfl,(HF.out.go blq).get 1 rfl,(HF.out.go blq).get 2 rfl,(HF.out.go blq).get 3 rfl,(HF.out.go blq).get 4 rfl,(HF.out.go blq).get 5 rfl,(HF.out.go blq).get 6 rfl,(HF.out.go blq).get 7 rfl⟩)
 refine OrdL.tk 0 (some 44) ?_
 refine nw ?_
 refine OrdL.tk 2 (some 46) ?_
 refine nw ?_
 refine OrdL.step2 (i:=1) (j:=5) rfl rfl (by decide) (by decide) (by kernel_rfl) (fun Kc hKc=>?_) (fun Kc hKc=>?_)
 · simp only [List.getElem_toArray,List.getElem_cons_zero,List.getElem_cons_succ];go_simp
   refine(c_FDen o).mono ?_;rintro e w1 ⟨rfl,hb1⟩;have hs1:=hb1.size;(try simp at hs1)
   go_wp2_with fail
   refine hKc.out _ _ ?_ (fun hHeld=>?_);focus ((try dsimp only);exact⟨(HF.out.go blq).get 0 rfl,(HF.out.go blq).get 1 rfl,(HF.out.go blq).get 2 rfl,(HF.out.go blq).get 3 rfl,(HF.out.go blq).get 4 rfl,(HF.out.go blq).get 5 rfl,(HF.out.go blq).get 6 rfl,(HF.out.go blq).get 7 rfl⟩)
   clear hKc Kc;refine nw ?_;refine OrdL.step2 (i:=3) (j:=5) rfl rfl (by decide) (by decide) (by kernel_rfl) (fun Kc hKc=>?_) (fun Kc hKc=>?_)
   · simp only [List.getElem_toArray,List.getElem_cons_zero,List.getElem_cons_succ];go_simp
     refine(c_FDen y).mono ?_;rintro e w2 ⟨rfl,hb2⟩;have hs2:=hb2.size;(try simp at hs2)
     go_wp2_with fail
     refine hKc.out _ _ ?_ (fun hHeld=>?_);focus ((try dsimp only);exact⟨(HF.out.go blq).get 0 rfl,(HF.out.go blq).get 1 rfl,(HF.out.go blq).get 2 rfl,(HF.out.go blq).get 3 rfl,(HF.out.go blq).get 4 rfl,(HF.out.go blq).get 5 rfl,(HF.out.go blq).get 6 rfl,(HF.out.go blq).get 7 rfl⟩)
     clear hKc Kc;refine nw ?_;refine OrdL.step2 (i:=4) (j:=5) rfl rfl (by decide) (by decide) (by kernel_rfl) (fun Kc hKc=>?_) (fun Kc hKc=>?_)
     · simp only [List.getElem_toArray,List.getElem_cons_zero,List.getElem_cons_succ];go_simp
       refine(c_Mul (P:=P) (HO.out.hd.below blq) (HY.out.hd.below blq) (by have:=HK.out;omega) (by have:=HK.out;omega) (fun k hk=>HP.out k (by have hb9:=hk;(try simp at hb9);omega))).mono ?_;rintro e w3 ⟨d,rfl,hd,hb3⟩;have HD:=Lib.hid hd;clear hd;have hs3:=hb3.size;(try simp at hs3)
       go_wp2_with fail
       refine hKc.out _ _ ?_ (fun hHeld=>?_);focus ((try dsimp only);exact⟨(HF.out.go blq).get 0 rfl,(HF.out.go blq).get 1 rfl,(HF.out.go blq).get 2 rfl,(HF.out.go blq).get 3 rfl,(HF.out.go blq).get 4 rfl,(HF.out.go blq).get 5 rfl,(HF.out.go blq).get 6 rfl,(HF.out.go blq).get 7 rfl⟩)
       clear hKc Kc;refine nw ?_;refine OrdL.st 5 fun Kc hKc=>?_
       refine nv ?_;go_simp
       go_wp2_with fail
       refine hKc.out _ _ ?_ (fun hHeld=>?_);focus ((try dsimp only);exact⟨(HF.out.go blq).get 0 rfl,(HF.out.go blq).get 1 rfl,(HF.out.go blq).get 2 rfl,(HF.out.go blq).get 3 rfl,(HF.out.go blq).get 4 rfl,(HF.out.go blq).get 5 rfl,(HF.out.go blq).get 6 rfl,(HF.out.go blq).get 7 rfl⟩)
       clear hKc Kc;refine nw ?_;refine OrdL.st 6 fun Kc hKc=>?_
       refine nv ?_;go_simp
       go_wp2_with fail
       refine hKc.out _ _ ?_ (fun hHeld=>?_);focus ((try dsimp only);exact⟨(HF.out.go blq).get 0 rfl,(HF.out.go blq).get 1 rfl,(HF.out.go blq).get 2 rfl,(HF.out.go blq).get 3 rfl,(HF.out.go blq).get 4 rfl,(HF.out.go blq).get 5 rfl,(HF.out.go blq).get 6 rfl,(HF.out.go blq).get 7 rfl⟩)
       clear hKc Kc;refine nw ?_;refine OrdL.done (by kernel_rfl) ?_ _;refine NoPanic.normal ?_;refine HQ.out w3.heap.size d _ _ _ _ _ _ (by omega) (Fr.lit2' _ _ _ _) (HD.out.below blq) blq
     · simp only [List.getElem_toArray,List.getElem_cons_zero,List.getElem_cons_succ];go_simp
       refine hKc.out _ _ ?_ (fun hHeld=>?_);focus ((try dsimp only);exact⟨(HF.out.go blq).get 0 rfl,(HF.out.go blq).get 1 rfl,(HF.out.go blq).get 2 rfl,(HF.out.go blq).get 3 rfl,(HF.out.go blq).get 4 rfl,(HF.out.go blq).get 5 rfl,(HF.out.go blq).get 6 rfl,(HF.out.go blq).get 7 rfl⟩)
       clear hKc Kc;refine nw ?_;refine OrdL.st 4 fun Kc hKc=>?_
       refine nv ?_;go_simp
       refine(c_Mul (P:=Ex P (w2.heap.size)) ((IsW.ex HO.out.hd (g:=w2.heap.size) (by omega)).below blq) ((IsW.ex HY.out.hd (g:=w2.heap.size) (by omega)).below blq) (by have:=HK.out;omega) (by have:=HK.out;omega) (fun k hk=>⟨HP.out k (by have hb9:=hk;(try simp at hb9);omega),by have hb9:=hk;(try simp at hb9);omega⟩)).mono ?_;rintro e w3 ⟨d,rfl,hd,hb3⟩;have HD:=Lib.hid hd;clear hd;have hs3:=hb3.size;(try simp at hs3)
       have hbw:w2.heap.size<w3.heap.size:=(by omega);go_wp2_with fail
       refine hKc.out _ _ ?_ (fun hHeld=>?_);focus ((try dsimp only);exact⟨(HF.out.go blq).get 0 rfl,(HF.out.go blq).get 1 rfl,(HF.out.go blq).get 2 rfl,(HF.out.go blq).get 3 rfl,(HF.out.go blq).get 4 rfl,(HF.out.go blq).get 5 rfl,(HF.out.go blq).get 6 rfl,(HF.out.go blq).get 7 rfl⟩)
       clear hKc Kc;refine nw ?_;have HB3:=Lib.hid (show Fr [(w2.heap.size,0,.bool false),(w2.heap.size,1,.slice none 0 0)] (w2.heap.size+1) w3 from by first|exact(Fr.lit2' _ _ _ _).go hb3|exact(Fr.lit2d _ _ _ _).go hb3|fail);have c0:=HB3.out.get 0 rfl;have c1:=HB3.out.get 1 rfl;have f0:=HB3.out.frz 0 rfl;have f1:=HB3.out.frz 1 rfl;refine OrdL.st 6 fun Kc hKc=>?_
       refine nv ?_;go_simp
       go_wp2_with fail
       refine hKc.out _ _ ?_ (fun hHeld=>?_);focus ((try dsimp only);exact⟨(HF.out.go blq).get 0 rfl,(HF.out.go blq).get 1 rfl,(HF.out.go blq).get 2 rfl,(HF.out.go blq).get 3 rfl,(HF.out.go blq).get 4 rfl,(HF.out.go blq).get 5 rfl,(HF.out.go blq).get 6 rfl,(HF.out.go blq).get 7 rfl⟩)
       clear hKc Kc;refine nw ?_;refine OrdL.done (by kernel_rfl) ?_ _;refine NoPanic.normal ?_;refine HQ.out (w2.heap.size) d _ _ _ _ _ _ (by omega) ?_ ?_ blq
       · exact Fr.eq ((HB3.out.sets (w2.heap.size) 0 (.bool d.b)).sets (w2.heap.size) 1 (.slice d.A d.n d.c)) (by simp)
       · exact((HD.out.set _ _).set _ _).out
   · simp only [List.getElem_toArray,List.getElem_cons_zero,List.getElem_cons_succ];go_simp
     refine hKc.out _ _ ?_ (fun hHeld=>?_);focus ((try dsimp only);exact⟨(HF.out.go blq).get 0 rfl,(HF.out.go blq).get 1 rfl,(HF.out.go blq).get 2 rfl,(HF.out.go blq).get 3 rfl,(HF.out.go blq).get 4 rfl,(HF.out.go blq).get 5 rfl,(HF.out.go blq).get 6 rfl,(HF.out.go blq).get 7 rfl⟩)
     clear hKc Kc;refine nw ?_;refine OrdL.st 3 fun Kc hKc=>?_
     refine nv ?_;go_simp
     refine(c_FDen y).mono ?_;rintro e w2 ⟨rfl,hb2⟩;have hs2:=hb2.size;(try simp at hs2)
     go_wp2_with fail
     refine hKc.out _ _ ?_ (fun hHeld=>?_);focus ((try dsimp only);exact⟨(HF.out.go blq).get 0 rfl,(HF.out.go blq).get 1 rfl,(HF.out.go blq).get 2 rfl,(HF.out.go blq).get 3 rfl,(HF.out.go blq).get 4 rfl,(HF.out.go blq).get 5 rfl,(HF.out.go blq).get 6 rfl,(HF.out.go blq).get 7 rfl⟩)
     clear hKc Kc;refine nw ?_;have HB2:=Lib.hid (show Fr [(w1.heap.size,0,.bool false),(w1.heap.size,1,.slice none 0 0)] (w1.heap.size+1) w2 from by first|exact(Fr.lit2' _ _ _ _).go hb2|exact(Fr.lit2d _ _ _ _).go hb2|fail);refine OrdL.st 4 fun Kc hKc=>?_
     refine nv ?_;go_simp
     refine(c_Mul (P:=Ex P (w1.heap.size)) ((IsW.ex HO.out.hd (g:=w1.heap.size) (by omega)).below blq) ((IsW.ex HY.out.hd (g:=w1.heap.size) (by omega)).below blq) (by have:=HK.out;omega) (by have:=HK.out;omega) (fun k hk=>⟨HP.out k (by have hb9:=hk;(try simp at hb9);omega),by have hb9:=hk;(try simp at hb9);omega⟩)).mono ?_;rintro e w3 ⟨d,rfl,hd,hb3⟩;have HD:=Lib.hid hd;clear hd;have hs3:=hb3.size;(try simp at hs3)
     have hbw:w1.heap.size<w3.heap.size:=(by omega);go_wp2_with fail
     refine hKc.out _ _ ?_ (fun hHeld=>?_);focus ((try dsimp only);exact⟨(HF.out.go blq).get 0 rfl,(HF.out.go blq).get 1 rfl,(HF.out.go blq).get 2 rfl,(HF.out.go blq).get 3 rfl,(HF.out.go blq).get 4 rfl,(HF.out.go blq).get 5 rfl,(HF.out.go blq).get 6 rfl,(HF.out.go blq).get 7 rfl⟩)
     clear hKc Kc;refine nw ?_;have HB3:=Lib.hid (show Fr [(w1.heap.size,0,.bool false),(w1.heap.size,1,.slice none 0 0)] (w1.heap.size+1) w3 from HB2.out.go hb3);have c0:=HB3.out.get 0 rfl;have c1:=HB3.out.get 1 rfl;have f0:=HB3.out.frz 0 rfl;have f1:=HB3.out.frz 1 rfl;refine OrdL.st 6 fun Kc hKc=>?_
     refine nv ?_;go_simp
     go_wp2_with fail
     refine hKc.out _ _ ?_ (fun hHeld=>?_);focus ((try dsimp only);exact⟨(HF.out.go blq).get 0 rfl,(HF.out.go blq).get 1 rfl,(HF.out.go blq).get 2 rfl,(HF.out.go blq).get 3 rfl,(HF.out.go blq).get 4 rfl,(HF.out.go blq).get 5 rfl,(HF.out.go blq).get 6 rfl,(HF.out.go blq).get 7 rfl⟩)
     clear hKc Kc;refine nw ?_;refine OrdL.done (by kernel_rfl) ?_ _;refine NoPanic.normal ?_;refine HQ.out (w1.heap.size) d _ _ _ _ _ _ (by omega) ?_ ?_ blq
     · exact Fr.eq ((HB3.out.sets (w1.heap.size) 0 (.bool d.b)).sets (w1.heap.size) 1 (.slice d.A d.n d.c)) (by simp)
     · exact((HD.out.set _ _).set _ _).out
 · simp only [List.getElem_toArray,List.getElem_cons_zero,List.getElem_cons_succ];go_simp
   refine hKc.out _ _ ?_ (fun hHeld=>?_);focus ((try dsimp only);exact⟨(HF.out.go blq).get 0 rfl,(HF.out.go blq).get 1 rfl,(HF.out.go blq).get 2 rfl,(HF.out.go blq).get 3 rfl,(HF.out.go blq).get 4 rfl,(HF.out.go blq).get 5 rfl,(HF.out.go blq).get 6 rfl,(HF.out.go blq).get 7 rfl⟩)
   clear hKc Kc;refine nw ?_;refine OrdL.st 1 fun Kc hKc=>?_
   refine nv ?_;go_simp
   refine(c_FDen o).mono ?_;rintro e w1 ⟨rfl,hb1⟩;have hs1:=hb1.size;(try simp at hs1)
   go_wp2_with fail
   refine hKc.out _ _ ?_ (fun hHeld=>?_);focus ((try dsimp only);exact⟨(HF.out.go blq).get 0 rfl,(HF.out.go blq).get 1 rfl,(HF.out.go blq).get 2 rfl,(HF.out.go blq).get 3 rfl,(HF.out.go blq).get 4 rfl,(HF.out.go blq).get 5 rfl,(HF.out.go blq).get 6 rfl,(HF.out.go blq).get 7 rfl⟩)
   clear hKc Kc;refine nw ?_;have HB1:=Lib.hid (show Fr [(wc.heap.size,0,.bool false),(wc.heap.size,1,.slice none 0 0)] (wc.heap.size+1) w1 from by first|exact(Fr.lit2' _ _ _ _).go hb1|exact(Fr.lit2d _ _ _ _).go hb1|fail);refine OrdL.st 3 fun Kc hKc=>?_
   refine nv ?_;go_simp
   refine(c_FDen y).mono ?_;rintro e w2 ⟨rfl,hb2⟩;have hs2:=hb2.size;(try simp at hs2)
   go_wp2_with fail
   refine hKc.out _ _ ?_ (fun hHeld=>?_);focus ((try dsimp only);exact⟨(HF.out.go blq).get 0 rfl,(HF.out.go blq).get 1 rfl,(HF.out.go blq).get 2 rfl,(HF.out.go blq).get 3 rfl,(HF.out.go blq).get 4 rfl,(HF.out.go blq).get 5 rfl,(HF.out.go blq).get 6 rfl,(HF.out.go blq).get 7 rfl⟩)
   clear hKc Kc;refine nw ?_;have HB2:=Lib.hid (show Fr [(wc.heap.size,0,.bool false),(wc.heap.size,1,.slice none 0 0)] (wc.heap.size+1) w2 from HB1.out.go hb2);refine OrdL.st 4 fun Kc hKc=>?_
   refine nv ?_;go_simp
   refine(c_Mul (P:=Ex P (wc.heap.size)) ((IsW.ex HO.out.hd (g:=wc.heap.size) (by omega)).below blq) ((IsW.ex HY.out.hd (g:=wc.heap.size) (by omega)).below blq) (by have:=HK.out;omega) (by have:=HK.out;omega) (fun k hk=>⟨HP.out k (by have hb9:=hk;(try simp at hb9);omega),by have hb9:=hk;(try simp at hb9);omega⟩)).mono ?_;rintro e w3 ⟨d,rfl,hd,hb3⟩;have HD:=Lib.hid hd;clear hd;have hs3:=hb3.size;(try simp at hs3)
   have hbw:wc.heap.size<w3.heap.size:=(by omega);go_wp2_with fail
   refine hKc.out _ _ ?_ (fun hHeld=>?_);focus ((try dsimp only);exact⟨(HF.out.go blq).get 0 rfl,(HF.out.go blq).get 1 rfl,(HF.out.go blq).get 2 rfl,(HF.out.go blq).get 3 rfl,(HF.out.go blq).get 4 rfl,(HF.out.go blq).get 5 rfl,(HF.out.go blq).get 6 rfl,(HF.out.go blq).get 7 rfl⟩)
   clear hKc Kc;refine nw ?_;have HB3:=Lib.hid (show Fr [(wc.heap.size,0,.bool false),(wc.heap.size,1,.slice none 0 0)] (wc.heap.size+1) w3 from HB2.out.go hb3);have c0:=HB3.out.get 0 rfl;have c1:=HB3.out.get 1 rfl;have f0:=HB3.out.frz 0 rfl;have f1:=HB3.out.frz 1 rfl;refine OrdL.st 6 fun Kc hKc=>?_
   refine nv ?_;go_simp
   go_wp2_with fail
   refine hKc.out _ _ ?_ (fun hHeld=>?_);focus ((try dsimp only);exact⟨(HF.out.go blq).get 0 rfl,(HF.out.go blq).get 1 rfl,(HF.out.go blq).get 2 rfl,(HF.out.go blq).get 3 rfl,(HF.out.go blq).get 4 rfl,(HF.out.go blq).get 5 rfl,(HF.out.go blq).get 6 rfl,(HF.out.go blq).get 7 rfl⟩)
   clear hKc Kc;refine nw ?_;refine OrdL.done (by kernel_rfl) ?_ _;refine NoPanic.normal ?_;refine HQ.out (wc.heap.size) d _ _ _ _ _ _ (by omega) ?_ ?_ blq
   · exact Fr.eq ((HB3.out.sets (wc.heap.size) 0 (.bool d.b)).sets (wc.heap.size) 1 (.slice d.A d.n d.c)) (by simp)
   · exact((HD.out.set _ _).set _ _).out
def ComRel(w0:World)(x:FV)(qr:List Rat)(q:Rat)(N:Nat)(v:Value)(W:World):Prop :=
 ∃(j:Nat) (o:FV),v=.int .i64 j∧j≤N∧IsF (Ex (fun _=>True) w0.heap.size) (34+35*j) W o ((qr.take j).foldl commQ q)∧Fr [(w0.heap.size,0,.bool o.num.b),(w0.heap.size,1,.slice o.num.A o.num.n o.num.c),(w0.heap.size,2,.bool o.den.b),(w0.heap.size,3,.slice o.den.A o.den.n o.den.c)] (w0.heap.size+1) W∧Below w0.heap.size w0 W
theorem c_rCommon{w:World}{A:Option Addr}{c:Nat}(bs:List ByteArray)(hA:Kd.string.C w A bs.length bs)(hn:bs.length≤100000)(hs:∀s∈bs,s.size≤140737488351232) :
 Calls Tryz.prog 35 #[.slice A bs.length c] w fun e w'=>e=.returned (.tuple #[.string (rCommon bs).1,.int .i64 (rCommon bs).2])∧Below w.heap.size w w':=by
 have HA:=Lib.hid hA
 have HS:=Lib.hid hs
 have HN:=Lib.hid hn
 clear hA hs hn
 go_enter Tryz.func35,Tryz.ntmps35
 go_wp2_with fail
 refine(c_parsed (P:=fun _=>True) bs HA.out (by have:=HN.out;omega) HS.out (fun _ _=>trivial)).mono ?_
 rintro e w1 ⟨⟨qs,xs,v,hq,rfl,hR,hFs⟩|⟨hno,rfl⟩,hb1⟩
 · have hlen:xs.length≤100000:=by have h1:=numsB_len hq;have h2:=hFs.1;have h3:=HN.out;omega
   match xs,qs,hFs,hq,hR,hlen with
   | [],[],hFs,hq,hR,hlen =>
    have HE:=Lib.hid (show rCommon bs=(nob,5)from by rw [rCommon,hq]);obtain⟨A4,c4,rfl⟩:=Kd.R_slice hR;clear hFs hq hR hlen;go_wp2_with fail
    go_ret2
    exact⟨by rw [HE.out];rfl,blq⟩
   | x :: xr,q :: qr,hFs,hq,hR,hlen =>
    obtain⟨g,c4,rfl,hc4⟩:=row_head hR;have HW:=Lib.hid (show RowC g (x :: xr) w1 from row_c hR);have HFS:=Lib.hid hFs;have HQ:=Lib.hid hq;have HB1:=Lib.hid hb1;have hg:g<w1.heap.size:=HW.out.1;clear hFs hq hR hb1;obtain⟨n,hnn⟩:∃n,n=(x :: xr).length:=⟨_,rfl⟩;rw [←hnn];have HC4:=Lib.hid hc4;clear hc4;have hn1:0<n:=by rw [hnn];simp
    have hn2:n≤100000:=by rw [hnn];exact hlen
    have hn3:((n:Int)==0)=false:=by simp;omega
    have HNN:=Lib.hid hnn;clear hnn hlen;go_wp2_with fail
    go_loopw [26] (fun v W=>∃k:Nat,v=.int .i64 k∧k≤n∧(∀p∈(q :: qr).take k,0<p.num.sign)∧Below w1.heap.size w1 W) (fun v _=>n-(intOf v).toNat)
    case atStart=>exact ⟨0,rfl,Nat.zero_le _,by simp,Below.refl _ _⟩
    case round =>
     obtain⟨k,rfl,hk,hpos,hb⟩:=hrel;have HPOS:=Lib.hid hpos;have HB:=Lib.hid hb;clear hpos hb;by_cases hlt:k<n
     · have hlt':(k:Int)<(n:Int):=by omega
       obtain⟨y,hy⟩:∃y,(x :: xr)[k]?=some y:=⟨(x :: xr)[k]'(by rw [←HNN.out];exact hlt),List.getElem?_eq_getElem _⟩;obtain⟨p,hp⟩:∃p,(q :: qr)[k]?=some p:=⟨(q :: qr)[k]'(by rw [←HFS.out.1,←HNN.out];exact hlt),List.getElem?_eq_getElem _⟩;have HY:=Lib.hid (HFS.out.2 k y p hy hp);have HWr:=Lib.hid (HW.out.below HB.out);have hgr:g<wr.heap.size:=HWr.out.1;have c0:wr.cell? ⟨g,k*4,none⟩=some (.bool y.num.b):=HWr.out.2 k y hy 0 _ rfl;have c1:=HWr.out.2 k y hy 1 _ rfl;have c2:=HWr.out.2 k y hy 2 _ rfl;have c3:=HWr.out.2 k y hy 3 _ rfl;have HPK:=Lib.hid hp;clear hy hp;by_cases hsg:p.num.sign≤0
       · obtain⟨sg,hsge⟩:∃sg,sg=p.num.sign:=⟨_,rfl⟩;have HSG:=Lib.hid hsge.symm;have hsg0:sg≤0:=by omega
         have HE:=Lib.hid (show rCommon bs=(nob,3)from by
          rw [rCommon,HQ.out]
          exact if_pos (by rw [List.any_eq_true];exact⟨p,List.mem_of_getElem? HPK.out,by simpa using hsg⟩))
         clear hsge hsg;go_wp2_with fail
         refine(c_FSign' (HY.out.below (have hb9:=HB.out;blq)) HSG.out).mono ?_;rintro e w2 ⟨rfl,hb2⟩;go_wp2_with fail
         go_ret2
         exact⟨by rw [HE.out];rfl,have hb8:=HB1.out;have hb9:=HB.out;blq⟩
       · obtain⟨sg,hsge⟩:∃sg,sg=p.num.sign:=⟨_,rfl⟩;have HSG:=Lib.hid hsge.symm;have hsg0:¬sg≤0:=by omega
         have HPOS2:=Lib.hid (show ∀r∈(q :: qr).take (k+1),0<r.num.sign from by
          intro r hr;have h1:=HPK.out;rw [List.take_add_one,h1]at hr;rcases List.mem_append.1 hr with h2|h2
          · exact HPOS.out r h2
          · simp at h2;rw [h2];omega)
         clear hsge hsg;go_wp2_with fail
         refine(c_FSign' (HY.out.below (have hb9:=HB.out;blq)) HSG.out).mono ?_;rintro e w2 ⟨rfl,hb2⟩;go_wp2_with fail
         go_roundw
         case rel=>exact ⟨k+1,by go_num,hlt,HPOS2.out,have hb9:=HB.out;blq⟩
         case measure=>simp [intOf];omega
     · obtain rfl:k=n:=by omega
       obtain⟨wo,rfl⟩:∃wo:World,wo=wr:=⟨_,rfl⟩;have hall:=HPOS.out;rw [List.take_of_length_le (by rw [←HFS.out.1,←HNN.out];exact Nat.le_refl _)]at hall
       have HE:=Lib.hid (show rCommon bs=tellB (qr.foldl commQ q)from by
        rw [rCommon,HQ.out]
        exact if_neg (by rw [List.any_eq_true];rintro⟨r,hr,h2⟩;have h3:=hall r hr;have h4:r.num.sign≤0:=(by simpa using h2);omega))
       have HALL:=Lib.hid hall;have HWr:=Lib.hid (HW.out.below HB.out);have HFR:=Lib.hid (HFS.out.below HB.out);have HB2:=Lib.hid (show Below w.heap.size w wo from bl_call (have hb8:=HB1.out;blq) HB.out);have hgr:g<wo.heap.size:=HWr.out.1;have c0:wo.cell? ⟨g,0,none⟩=some (.bool x.num.b):=by have h9:=HWr.out.2 0 x rfl 0 _ rfl;simpa using h9
       have c1:wo.cell? ⟨g,1,none⟩=some (.slice x.num.A x.num.n x.num.c):=by have h9:=HWr.out.2 0 x rfl 1 _ rfl;simpa using h9
       have c2:wo.cell? ⟨g,2,none⟩=some (.bool x.den.b):=by have h9:=HWr.out.2 0 x rfl 2 _ rfl;simpa using h9
       have c3:wo.cell? ⟨g,3,none⟩=some (.slice x.den.A x.den.n x.den.c):=by have h9:=HWr.out.2 0 x rfl 3 _ rfl;simpa using h9
       have hkc:k≤c4:=by rw [HNN.out];exact HC4.out
       have hkc':(1:Int)≤(k:Int):=by omega
       have hkc2:(k:Int)≤(c4:Int):=by omega
       clear hall HPOS;by_cases h1:k=1
       · subst h1;have hqr:qr= []:=by
          have h8:=HFS.out.1;have h9:=HNN.out;cases qr with
          | nil=>rfl
          | cons _ _=>rw [←h9]at h8;simp at h8
         have HX:=Lib.hid (HFR.out.2 0 x q rfl rfl);by_cases hc1:c4=1
         all_goals
          go_wp2_with fail
          go_loopw [40] (fun v W=>v=.int .i64 (0:Nat)∧W=wo.alloc (.cells #[.bool x.num.b,.slice x.num.A x.num.n x.num.c,.bool x.den.b,.slice x.den.A x.den.n x.den.c] 52)) (fun _ _=>0)
          case atStart=>exact ⟨rfl,rfl⟩
          case round =>
           obtain⟨rfl,rfl⟩:=hrel;go_wp2_with fail
           refine(c_told (P:=fun _=>True) (K:=34) (q:=q) (HX.out.below blq) (by omega)).mono ?_;rintro e w2 ⟨rfl,hb2⟩;go_wp2_with fail
           go_ret2
           exact⟨by rw [HE.out,hqr];rfl,have hb8:=HB2.out;blq⟩
       · have hc1:¬c4=1:=by omega
         obtain⟨N,hN⟩:∃N,N+1=k:=⟨k-1,by omega⟩;have hN1:k-1=N:=by omega
         have HN1:=Lib.hid hN1;have hN2:N≤100000:=by omega
         have HFX:=Lib.hid (show Fs (Ex (fun _=>True) wo.heap.size) 34 wo (x :: xr) (q :: qr)from ⟨HFR.out.1,fun i y p h2 h3=>(HFR.out.2 i y p h2 h3).ex (Nat.le_refl _)⟩);have HLX:=Lib.hid (show xr.length=N by have h9:=HNN.out;simp at h9;omega);have HLQ:=Lib.hid (show qr.length=N by have h9:=HNN.out;have h8:=HFS.out.1;simp at h9 h8;omega);have HR0:=Lib.hid (show ComRel wo x qr q N (.int .i64 (0:Nat)) (wo.alloc (.cells #[.bool x.num.b,.slice x.num.A x.num.n x.num.c,.bool x.den.b,.slice x.den.A x.den.n x.den.c] 52))from ⟨0,x,rfl,Nat.zero_le _,(HFX.out.2 0 x q rfl rfl).below blq,(Fr.nil (Nat.le_refl _)).new4 _ _ _ _ 52,blq⟩);clear h1 hN hkc hkc' HFR HALL HB1 HFS;go_wp2_with fail
         clear hN1;go_loopw [40] (fun v W=>ComRel wo x qr q N v W) (fun v _=>N-(intOf v).toNat)
         case atStart=>exact HR0.out
         case round =>
          clear HR0;obtain⟨j,o,rfl,hj,hO,hF,hB⟩:=hrel;have HO:=Lib.hid hO;have HF:=Lib.hid hF;have HB:=Lib.hid hB;have hzr:wo.heap.size<wr.heap.size:=hF.1;have q0_0:=hF.get 0 rfl;have q0_1:=hF.get 1 rfl;have q0_2:=hF.get 2 rfl;have q0_3:=hF.get 3 rfl;clear hO hF hB;by_cases hlt:j<N
          · have hlt':(j:Int)<(N:Int):=by omega
            have hj0:(0:Int)≤(j:Int):=by omega
            obtain⟨y,hy⟩:∃y,xr[j]?=some y:=⟨xr[j]'(by rw [HLX.out];exact hlt),List.getElem?_eq_getElem _⟩;obtain⟨p,hp⟩:∃p,qr[j]?=some p:=⟨qr[j]'(by rw [HLQ.out];exact hlt),List.getElem?_eq_getElem _⟩;have HY:=Lib.hid ((HFX.out.2 (j+1) y p (by simpa using hy) (by simpa using hp)).below HB.out);have HWR:=Lib.hid (HWr.out.below HB.out);have hgr2:g<wr.heap.size:=HWR.out.1;have hy2:(x :: xr)[j+1]?=some y:=by simpa using hy
            have e0:wr.cell? ⟨g,4+j*4,none⟩=some (.bool y.num.b):=by have h9:=HWR.out.2 (j+1) y hy2 0 _ rfl;rw [show (j+1)*4+0=4+j*4 by omega]at h9;exact h9
            have e1:wr.cell? ⟨g,4+j*4+1,none⟩=some (.slice y.num.A y.num.n y.num.c):=by have h9:=HWR.out.2 (j+1) y hy2 1 _ rfl;rw [show (j+1)*4+1=4+j*4+1 by omega]at h9;exact h9
            have e2:wr.cell? ⟨g,4+j*4+2,none⟩=some (.bool y.den.b):=by have h9:=HWR.out.2 (j+1) y hy2 2 _ rfl;rw [show (j+1)*4+2=4+j*4+2 by omega]at h9;exact h9
            have e3:wr.cell? ⟨g,4+j*4+3,none⟩=some (.slice y.den.A y.den.n y.den.c):=by have h9:=HWR.out.2 (j+1) y hy2 3 _ rfl;rw [show (j+1)*4+3=4+j*4+3 by omega]at h9;exact h9
            have HTK:=Lib.hid (show(qr.take (j+1)).foldl commQ q=commQ ((qr.take j).foldl commQ q) p by rw [List.take_add_one,hp,List.foldl_append];rfl);have HK:=Lib.hid (show 34+35*j≤100000000 by omega);have HPW:=Lib.hid (show ∀k',wr.heap.size≤k'→Ex (fun _=>True) wo.heap.size k' from fun k' hk'=>⟨trivial,by omega⟩);obtain⟨u,hu⟩:∃u,u=(qr.take j).foldl commQ q:=⟨_,rfl⟩;rw [←hu]at HO HTK;have HF4:=Lib.hid (HF.out.new4 (.bool y.num.b) (.slice y.num.A y.num.n y.num.c) (.bool y.den.b) (.slice y.den.A y.den.n y.den.c) 52);clear hy hp hy2 hu;go_wp2_with fail
            refine com_r16 (P:=Ex (fun _=>True) wo.heap.size) (K:=34+35*j) (o:=o) (y:=y) (u:=u) (v:=p) HF4.out (HO.out.below blq) (HY.out.below blq) HK.out (fun k' hk'=>HPW.out k' (by simp at hk';omega)) ?_;intro b d t44 t45 t46 t47 t48 w3 hbw hfd hd hb3;have HD:=Lib.hid hd;have HFD:=Lib.hid hfd;have HF5:=Lib.hid (HF4.out.go hb3);have hbw2:wr.heap.size+1≤b:=by simpa using hbw
            have hz3:b<w3.heap.size:=hfd.1;clear hfd hd hbw;go_wp2_with fail
            have HNZ:=Lib.hid (show(u.den:Int)*p.den≠0 from Int.mul_ne_zero (by have:=den_pos u;omega) (by have:=den_pos p;omega));refine OrdL.begin_ (S:=fun W=>W.cell? ⟨wr.heap.size,0,none⟩=some (.bool y.num.b)∧W.cell? ⟨wr.heap.size,1,none⟩=some (.slice y.num.A y.num.n y.num.c)∧W.cell? ⟨wr.heap.size,2,none⟩=some (.bool y.den.b)∧W.cell? ⟨wr.heap.size,3,none⟩=some (.slice y.den.A y.den.n y.den.c)∧W.cell? ⟨wo.heap.size,0,none⟩=some (.bool o.num.b)∧W.cell? ⟨wo.heap.size,1,none⟩=some (.slice o.num.A o.num.n o.num.c)∧W.cell? ⟨wo.heap.size,2,none⟩=some (.bool o.den.b)∧W.cell? ⟨wo.heap.size,3,none⟩=some (.slice o.den.A o.den.n o.den.c)∧W.cell? ⟨b,0,none⟩=some (.bool d.b)∧W.cell? ⟨b,1,none⟩=some (.slice d.A d.n d.c)) [] [13] (by kernel_rfl) ?_ (fun hHeld=>?_);focus ((try dsimp only);exact⟨(HF5.out.go blq).get 0 rfl,(HF5.out.go blq).get 1 rfl,(HF5.out.go blq).get 2 rfl,(HF5.out.go blq).get 3 rfl,(HF5.out.go blq).get 4 rfl,(HF5.out.go blq).get 5 rfl,(HF5.out.go blq).get 6 rfl,(HF5.out.go blq).get 7 rfl,(HFD.out.go blq).get 0 rfl,(HFD.out.go blq).get 1 rfl⟩)
            refine OrdL.tk 0 (some 49) ?_;refine nw ?_;refine OrdL.tk 2 (some 51) ?_;refine nw ?_;refine OrdL.tk 5 (some 54) ?_;refine nw ?_;refine OrdL.tk 7 (some 56) ?_;refine nw ?_;refine OrdL.tk 11 (some 60) ?_;refine nw ?_;refine OrdL.st 1 fun Kc hKc=>?_
            refine nv ?_;go_simp
            refine(c_FNum o).mono ?_;rintro e v1 ⟨rfl,hc1⟩;have hs1:=hc1.size;(try simp at hs1)
            go_wp2_with fail
            refine hKc.out _ _ ?_ (fun hHeld=>?_);focus ((try dsimp only);exact⟨(HF5.out.go blq).get 0 rfl,(HF5.out.go blq).get 1 rfl,(HF5.out.go blq).get 2 rfl,(HF5.out.go blq).get 3 rfl,(HF5.out.go blq).get 4 rfl,(HF5.out.go blq).get 5 rfl,(HF5.out.go blq).get 6 rfl,(HF5.out.go blq).get 7 rfl,(HFD.out.go blq).get 0 rfl,(HFD.out.go blq).get 1 rfl⟩)
            clear hKc Kc;refine nw ?_;refine OrdL.st 3 fun Kc hKc=>?_
            refine nv ?_;go_simp
            refine(c_FDen y).mono ?_;rintro e v2 ⟨rfl,hc2⟩;have hs2:=hc2.size;(try simp at hs2)
            go_wp2_with fail
            refine hKc.out _ _ ?_ (fun hHeld=>?_);focus ((try dsimp only);exact⟨(HF5.out.go blq).get 0 rfl,(HF5.out.go blq).get 1 rfl,(HF5.out.go blq).get 2 rfl,(HF5.out.go blq).get 3 rfl,(HF5.out.go blq).get 4 rfl,(HF5.out.go blq).get 5 rfl,(HF5.out.go blq).get 6 rfl,(HF5.out.go blq).get 7 rfl,(HFD.out.go blq).get 0 rfl,(HFD.out.go blq).get 1 rfl⟩)
            clear hKc Kc;refine nw ?_;refine OrdL.st 4 fun Kc hKc=>?_
            refine nv ?_;go_simp
            refine(c_Mul (P:=Ex (fun _=>True) wo.heap.size) (HO.out.hn.below blq) (HY.out.hd.below blq) (by have:=HK.out;omega) (by omega) (fun k' hk'=>HPW.out k' (by have hb9:=hk';(try simp at hb9);omega))).mono ?_;rintro e v3 ⟨m1,rfl,hm1,hc3⟩;have hs3:=hc3.size;(try simp at hs3)
            have HM1:=Lib.hid hm1;clear hm1;go_wp2_with fail
            refine hKc.out _ _ ?_ (fun hHeld=>?_);focus ((try dsimp only);exact⟨(HF5.out.go blq).get 0 rfl,(HF5.out.go blq).get 1 rfl,(HF5.out.go blq).get 2 rfl,(HF5.out.go blq).get 3 rfl,(HF5.out.go blq).get 4 rfl,(HF5.out.go blq).get 5 rfl,(HF5.out.go blq).get 6 rfl,(HF5.out.go blq).get 7 rfl,(HFD.out.go blq).get 0 rfl,(HFD.out.go blq).get 1 rfl⟩)
            clear hKc Kc;refine nw ?_;refine OrdL.st 6 fun Kc hKc=>?_
            refine nv ?_;go_simp
            refine(c_FNum y).mono ?_;rintro e v4 ⟨rfl,hc4⟩;have hs4:=hc4.size;(try simp at hs4)
            go_wp2_with fail
            refine hKc.out _ _ ?_ (fun hHeld=>?_);focus ((try dsimp only);exact⟨(HF5.out.go blq).get 0 rfl,(HF5.out.go blq).get 1 rfl,(HF5.out.go blq).get 2 rfl,(HF5.out.go blq).get 3 rfl,(HF5.out.go blq).get 4 rfl,(HF5.out.go blq).get 5 rfl,(HF5.out.go blq).get 6 rfl,(HF5.out.go blq).get 7 rfl,(HFD.out.go blq).get 0 rfl,(HFD.out.go blq).get 1 rfl⟩)
            clear hKc Kc;refine nw ?_;refine OrdL.st 8 fun Kc hKc=>?_
            refine nv ?_;go_simp
            refine(c_FDen o).mono ?_;rintro e v5 ⟨rfl,hc5⟩;have hs5:=hc5.size;(try simp at hs5)
            go_wp2_with fail
            refine hKc.out _ _ ?_ (fun hHeld=>?_);focus ((try dsimp only);exact⟨(HF5.out.go blq).get 0 rfl,(HF5.out.go blq).get 1 rfl,(HF5.out.go blq).get 2 rfl,(HF5.out.go blq).get 3 rfl,(HF5.out.go blq).get 4 rfl,(HF5.out.go blq).get 5 rfl,(HF5.out.go blq).get 6 rfl,(HF5.out.go blq).get 7 rfl,(HFD.out.go blq).get 0 rfl,(HFD.out.go blq).get 1 rfl⟩)
            clear hKc Kc;refine nw ?_;refine OrdL.st 9 fun Kc hKc=>?_
            refine nv ?_;go_simp
            refine(c_Mul (P:=Ex (fun _=>True) wo.heap.size) (HY.out.hn.below blq) (HO.out.hd.below blq) (by omega) (by have:=HK.out;omega) (fun k' hk'=>HPW.out k' (by have hb9:=hk';(try simp at hb9);omega))).mono ?_;rintro e v6 ⟨m2,rfl,hm2,hc6⟩;have hs6:=hc6.size;(try simp at hs6)
            have HM2:=Lib.hid hm2;clear hm2;go_wp2_with fail
            refine hKc.out _ _ ?_ (fun hHeld=>?_);focus ((try dsimp only);exact⟨(HF5.out.go blq).get 0 rfl,(HF5.out.go blq).get 1 rfl,(HF5.out.go blq).get 2 rfl,(HF5.out.go blq).get 3 rfl,(HF5.out.go blq).get 4 rfl,(HF5.out.go blq).get 5 rfl,(HF5.out.go blq).get 6 rfl,(HF5.out.go blq).get 7 rfl,(HFD.out.go blq).get 0 rfl,(HFD.out.go blq).get 1 rfl⟩)
            clear hKc Kc;refine nw ?_;refine OrdL.st 10 fun Kc hKc=>?_
            refine nv ?_;go_simp
            refine(c_Gcd (P:=Ex (fun _=>True) wo.heap.size) (K:=34+35*j+34) (HM1.out.below blq) ((HM2.out.wide (by omega)).below blq) (by have:=HK.out;omega) (fun k' hk'=>HPW.out k' (by have hb9:=hk';(try simp at hb9);omega))).mono ?_;rintro e v7 ⟨gc,rfl,hgc,hc7⟩;have hs7:=hc7.size;(try simp at hs7)
            have HGC:=Lib.hid hgc;clear hgc;go_wp2_with fail
            refine hKc.out _ _ ?_ (fun hHeld=>?_);focus ((try dsimp only);exact⟨(HF5.out.go blq).get 0 rfl,(HF5.out.go blq).get 1 rfl,(HF5.out.go blq).get 2 rfl,(HF5.out.go blq).get 3 rfl,(HF5.out.go blq).get 4 rfl,(HF5.out.go blq).get 5 rfl,(HF5.out.go blq).get 6 rfl,(HF5.out.go blq).get 7 rfl,(HFD.out.go blq).get 0 rfl,(HFD.out.go blq).get 1 rfl⟩)
            clear hKc Kc;refine nw ?_;refine OrdL.st 12 fun Kc hKc=>?_
            refine nv ?_;go_simp
            refine(c_New (P:=Ex (fun _=>True) wo.heap.size) (HGC.out.below blq) (HD.out.below blq) HNZ.out (by have:=HK.out;omega) (fun k' hk'=>HPW.out k' (by have hb9:=hk';(try simp at hb9);omega))).mono ?_;rintro e v8 ⟨r,rfl,hr,hc8⟩;have hs8:=hc8.size;(try simp at hs8)
            have HR:=Lib.hid (show IsF (Ex (fun _=>True) wo.heap.size) (34+35*j+34+1) v8 r (commQ u p)from hr);clear hr;have HF9:=Lib.hid (show Fr [(wo.heap.size,0,.bool o.num.b),(wo.heap.size,1,.slice o.num.A o.num.n o.num.c),(wo.heap.size,2,.bool o.den.b),(wo.heap.size,3,.slice o.den.A o.den.n o.den.c)] (wo.heap.size+1) v8 from HF.out.go blq);obtain⟨y0,y1,y2,y3,-⟩:=HF9.out.alls 0 4;obtain⟨_,_,_,_,-⟩:=HF9.out.falls 0 4;go_wp2_with fail
            refine hKc.out _ _ ?_ (fun hHeld=>?_);focus ((try dsimp only);exact⟨(HF5.out.go blq).get 0 rfl,(HF5.out.go blq).get 1 rfl,(HF5.out.go blq).get 2 rfl,(HF5.out.go blq).get 3 rfl,(HF5.out.go blq).get 4 rfl,(HF5.out.go blq).get 5 rfl,(HF5.out.go blq).get 6 rfl,(HF5.out.go blq).get 7 rfl,(HFD.out.go blq).get 0 rfl,(HFD.out.go blq).get 1 rfl⟩)
            clear hKc Kc;refine nw ?_;refine OrdL.last (i:=13) rfl (by decide) (by decide) (by kernel_rfl) (fun Kc hKc=>?_);refine nv ?_;go_simp
            refine hKc.out _ _ ?_;clear hKc Kc;refine nw ?_;refine OrdL.done (by kernel_rfl) ?_ _;go_wp2_with fail
            go_roundw
            case rel =>
             refine⟨j+1,r,by go_num,hlt,?_,?_,?_⟩
             · rw [HTK.out,show 34+35*(j+1)=34+35*j+34+1 by omega];exact(((HR.out.setx _ _).setx _ _).setx _ _).setx _ _
             · have h9:=(((HF9.out.sets wo.heap.size 0 (.bool r.num.b)).sets wo.heap.size 1 (.slice r.num.A r.num.n r.num.c)).sets wo.heap.size 2 (.bool r.den.b)).sets wo.heap.size 3 (.slice r.den.A r.den.n r.den.c);exact h9.eq (by simp)
             · have hb8:=HB.out;exact blq
            case measure=>simp [intOf];omega
          · obtain rfl:j=N:=by omega
            have HO2:=Lib.hid (show IsF (Ex (fun _=>True) wo.heap.size) (34+35*j) wr o (qr.foldl commQ q) by have h9:=HO.out;rw [List.take_of_length_le (by rw [HLQ.out];exact Nat.le_refl _)]at h9;exact h9);clear HO;go_wp2_with fail
            refine(c_told (HO2.out.below blq) (by omega)).mono ?_;rintro e w2 ⟨rfl,hb2⟩;go_wp2_with fail
            go_ret2
            exact⟨by rw [HE.out];rfl,have hb8:=bl_call HB2.out HB.out;blq⟩
 · have HE:=Lib.hid (show rCommon bs=(nob,1)from by rw [rCommon,hno]);have HB1:=Lib.hid hb1;clear hno hb1;go_wp2_with fail
   go_ret2
   exact⟨by rw [HE.out];rfl,have hb9:=HB1.out;blq⟩
end Go.Proofs.YtpdghgfbfmaplaaGreatDoor.Wh
end
