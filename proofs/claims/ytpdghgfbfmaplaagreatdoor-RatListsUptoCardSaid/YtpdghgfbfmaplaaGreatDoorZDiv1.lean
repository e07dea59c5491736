/- Lemmas for RatLists. -/
import Derived.Test.YtpdghgfbfmaplaaGreatDoorZDiv0
set_option maxRecDepth 100000
set_option maxHeartbeats 8000000
section
set_option linter.unusedVariables false
namespace Go.Proofs.YtpdghgfbfmaplaaGreatDoor.Wh
open Go.RowKit Go.Proofs.YtpdghgfbfmaplaaGreatDoorW.PrintWords Go.Proofs.YtpdghgfbfmaplaaGreatDoor.Num Go.Proofs.YtpdghgfbfmaplaaGreatDoor.PWhole Go.Proofs.YtpdghgfbfmaplaaGreatDoor.WhC
structure Kp (g:Nat) (W W':World):Prop where
 os:W'.os=W.os
 tape:W'.tape=W.tape
 output:W'.output=W.output
 size:W.heap.size≤W'.heap.size
 block:∀k,k<W.heap.size→k≠g→W'.heap[k]?=W.heap[k]?
theorem Kp.refl(g:Nat)(W:World):Kp g W W:=⟨rfl,rfl,rfl,Nat.le_refl _,fun _ _ _=>rfl⟩
theorem Kp.go{g:Nat}{W W1 W2:World}(h:Kp g W W1)(k:Below W1.heap.size W1 W2):Kp g W W2 :=
 ⟨k.os.trans h.os,k.tape.trans h.tape,k.output.trans h.output,Nat.le_trans h.size k.size,fun b hb hne=>(k.block b (Nat.lt_of_lt_of_le hb h.size)).trans (h.block b hb hne)⟩
theorem Kp.set{g:Nat}{W W1:World}(h:Kp g W W1)(j:Nat)(u:Value):Kp g W (W1.setCell ⟨g,j,none⟩ u):=by
 have e:=Below.refl W1.heap.size W1
 refine⟨?_,?_,?_,?_,fun b hb hne=>?_⟩
 · rw [←h.os];rfl
 · rw [←h.tape];rfl
 · rw [←h.output];rfl
 · have:=h.size;simpa [World.setCell]using this
 · rw [Below.heap_setCell W1 ⟨g,j,none⟩ u b hne];exact h.block b hb hne
theorem Kp.below{g:Nat}{w W W1:World}(h:Kp g W W1)(hb:Below w.heap.size w W)(hg:w.heap.size≤g):Below w.heap.size w W1 :=
 ⟨h.os.trans hb.os,h.tape.trans hb.tape,h.output.trans hb.output,Nat.le_trans hb.size h.size,fun k hk=>(h.block k (Nat.lt_of_lt_of_le hk hb.size) (by omega)).trans (hb.block k hk)⟩
theorem kp_cell{g:Nat}{W W1:World}(h:Kp g W W1){b j:Nat}(hb:b<W.heap.size)(hne:b≠g):W1.cell? ⟨b,j,none⟩=W.cell? ⟨b,j,none⟩∧W1.frozen? ⟨b,j,none⟩=W.frozen? ⟨b,j,none⟩:=by
 have e:=h.block b hb hne
 have hbl:Below (b+1) { W with heap:=W.heap.extract 0 0 } { W with heap:=W.heap.extract 0 0 }:=Below.refl _ _
 constructor
 · simp only [World.cell?,e]
 · simp only [World.frozen?,e]
theorem Fr.kp{L:List (Nat×Nat×Value)}{s g:Nat}{W W1:World}(h:Fr L s W)(k:Kp g W W1)(hg:∀x∈L,x.1≠g):Fr L s W1 :=
 ⟨Nat.le_trans h.1 k.size,fun x hx=>by
  obtain⟨h1,h2,h3⟩:=h.2 x hx;have e:=kp_cell k (b:=x.1) (j:=x.2.1) (Nat.lt_of_lt_of_le h1 h.1) (hg x hx)
  exact⟨h1,e.1.trans h2,e.2.trans h3⟩⟩
theorem IsW.kp{P:Nat→Prop}{K g:Nat}{W W1:World}{x:WV}{z:Int}(h:IsW P K W x z)(k:Kp g W W1)(hg:∀b,P b→b≠g):IsW P K W1 x z:=h.step (fun b hb hlt=>k.block b hlt (hg b hb))
theorem Sl.kp{P:Nat→Prop}{g:Nat}{W W1:World}{v:Value}{l:List Int}(h:Sl P W v l)(k:Kp g W W1)(hg:∀b,P b→b≠g):Sl P W1 v l:=h.step (fun b hb hlt=>k.block b hlt (hg b hb))
theorem div_r11{P:Nat→Prop}{K:Nat}{wc:World}{Q:Exit→Act→World→Prop}{bz g:Nat}{yv rv:WV}{u zr:Int}{s0 s1 s2 s4 s5 s6 s7 s8 s9 s11 s12 s13 s14 s15 s16 s17 s18 s19 s20 s21 s22 s23 s24 s25 s26 s27 s28 s29 s30 s31 s32 s33 s34 s35 s36 s37 s38 s39 s40 s41 s42 s43 s44 s45 s46 s47 s48 s49 s50 s51 s52 s53 s54 s55 s56 s57 s58 s59 s60 s61 s62 s63 s64 s65 s66 s67 s68:Value}
 (hy:Fr [(bz,0,.bool yv.b),(bz,1,.slice yv.A yv.n yv.c)] (bz+1) wc) (hg:Fr [(g,0,.bool rv.b),(g,1,.slice rv.A rv.n rv.c)] (g+1) wc)
 (hY:IsW P K wc yv u) (hR:IsW P K wc rv zr) (hK:K≤20000000000000) (hP:∀k,wc.heap.size≤k→P k) (hPg:∀k,P k→k≠g)
 (hQ:∀(r1:WV) (t58 t59 t60 t61:Value) (W:World),IsW P (K+1) W r1 (zr+(u.natAbs:Int))→Fr [(g,0,.bool r1.b),(g,1,.slice r1.A r1.n r1.c)] (g+1) W→Kp g wc W→Q .normal ⟨#[s0,s1,s2,.pointer (some ⟨bz,0,none⟩),s4,s5,s6,s7,s8,s9,.pointer (some ⟨g,0,none⟩),s11,s12,s13,s14,s15,s16,s17,s18,s19,s20,s21,s22,s23,s24,s25,s26,s27,s28,s29,s30,s31,s32,s33,s34,s35,s36,s37,s38,s39,s40,s41,s42,s43,s44,s45,s46,s47,s48,s49,s50,s51,s52,s53,s54,s55,s56,s57,t58,t59,t60,t61,s62,s63,s64,s65,s66,s67,s68],[]⟩ W) :
 Code.wp Tryz.prog ((Tryz.f100.body.bind (regOf 11)).getD .skip) Q ⟨#[s0,s1,s2,.pointer (some ⟨bz,0,none⟩),s4,s5,s6,s7,s8,s9,.pointer (some ⟨g,0,none⟩),s11,s12,s13,s14,s15,s16,s17,s18,s19,s20,s21,s22,s23,s24,s25,s26,s27,s28,s29,s30,s31,s32,s33,s34,s35,s36,s37,s38,s39,s40,s41,s42,s43,s44,s45,s46,s47,s48,s49,s50,s51,s52,s53,s54,s55,s56,s57,s58,s59,s60,s61,s62,s63,s64,s65,s66,s67,s68],[]⟩ wc:=by
 have HQ:=Lib.hid hQ
 have HY:=Lib.hid hY
 have HR:=Lib.hid hR
 have HP:=Lib.hid hP
 have HPG:=Lib.hid hPg
 have HFY:=Lib.hid hy
 have HFG:=Lib.hid hg
 have y0:=hy.get 0 rfl
 have y1:=hy.get 1 rfl
 have g0:=hg.get 0 rfl
 have g1:=hg.get 1 rfl
 have e0:=hg.frz 0 rfl
 have e1:=hg.frz 1 rfl
 have hlg:g<wc.heap.size:=hg.1
 have hly:bz<wc.heap.size:=hy.1
 clear hQ hY hR hP hPg hy hg
 conv=>arg 2;whnf
 go_region_with (first
  | (go_at_call 113;go_must (with_reducible refine(c_Abs (P:=P) (HY.out.below blo)).mono ?_);rintro e w1 ⟨ya,rfl,hya,hb1⟩;have HYA:=Lib.hid hya;clear hya;have HFG1:=Lib.hid (show Fr [(g,0,.bool rv.b),(g,1,.slice rv.A rv.n rv.c)] (g+1) w1 from HFG.out.below (show Below wc.heap.size wc w1 from blo) HFG.out.1);have HFY1:=Lib.hid (show Fr [(bz,0,.bool yv.b),(bz,1,.slice yv.A yv.n yv.c)] (bz+1) w1 from HFY.out.below (show Below wc.heap.size wc w1 from blo) HFY.out.1);have c10:=HFG1.out.get 0 rfl;have c11:=HFG1.out.get 1 rfl;have d10:=HFG1.out.frz 0 rfl;have d11:=HFG1.out.frz 1 rfl;have k10:=HFY1.out.get 0 rfl;have k11:=HFY1.out.get 1 rfl;have hz1:g<w1.heap.size:=HFG1.out.1)
  | (go_at_call 109;go_must (with_reducible refine(c_Add (P:=P) (K:=K) (HR.out.below blo) (HYA.out.below blo) (by omega) (fresh HP.out blo)).mono ?_);rintro e w2 ⟨r1,rfl,hr1,hb2⟩;have HR1:=Lib.hid hr1;clear hr1;have HFG2:=Lib.hid (show Fr [(g,0,.bool rv.b),(g,1,.slice rv.A rv.n rv.c)] (g+1) w2 from HFG.out.below (show Below wc.heap.size wc w2 from blo) HFG.out.1);have HFY2:=Lib.hid (show Fr [(bz,0,.bool yv.b),(bz,1,.slice yv.A yv.n yv.c)] (bz+1) w2 from HFY.out.below (show Below wc.heap.size wc w2 from blo) HFY.out.1);have c20:=HFG2.out.get 0 rfl;have c21:=HFG2.out.get 1 rfl;have d20:=HFG2.out.frz 0 rfl;have d21:=HFG2.out.frz 1 rfl;have k20:=HFY2.out.get 0 rfl;have k21:=HFY2.out.get 1 rfl;have hz2:g<w2.heap.size:=HFG2.out.1))
 all_goals (refine HQ.out r1 _ _ _ _ _ ?_ (HFG2.out.box) ((((Kp.refl g wc).go blo).set 0 _).set 1 _))
 all_goals exact((HR1.out.kp ((Kp.refl g w2).set 0 _) HPG.out).kp ((Kp.refl g _).set 1 _) HPG.out)
theorem div_r12{P:Nat→Prop}{K:Nat}{wc:World}{Q:Exit→Act→World→Prop}{bz g:Nat}{yv rv:WV}{u zr:Int}{s0 s1 s2 s4 s5 s6 s7 s8 s10 s11 s12 s13 s14 s15 s16 s17 s18 s19 s20 s21 s22 s23 s24 s25 s26 s27 s28 s29 s30 s31 s32 s33 s34 s35 s36 s37 s38 s39 s40 s41 s42 s43 s44 s45 s46 s47 s48 s49 s50 s51 s52 s53 s54 s55 s56 s57 s58 s59 s60 s61 s62 s63 s64 s65 s66 s67 s68:Value}
 (hy:Fr [(bz,0,.bool yv.b),(bz,1,.slice yv.A yv.n yv.c)] (bz+1) wc) (hg:Fr [(g,0,.bool rv.b),(g,1,.slice rv.A rv.n rv.c)] (g+1) wc)
 (hY:IsW P K wc yv u) (hR:IsW P K wc rv zr) (hK:K≤10000000000000) (hP:∀k,wc.heap.size≤k→P k) (hPg:∀k,P k→k≠g)
 (hQ:∀(r1:WV) (t62 t63 t64 t65 t66:Value) (W:World),IsW P (K+3+1) W r1 (zr-u.sign)→Fr [(g,0,.bool r1.b),(g,1,.slice r1.A r1.n r1.c)] (g+1) W→Kp g wc W→Q .normal ⟨#[s0,s1,s2,.pointer (some ⟨bz,0,none⟩),s4,s5,s6,s7,s8,.pointer (some ⟨g,0,none⟩),s10,s11,s12,s13,s14,s15,s16,s17,s18,s19,s20,s21,s22,s23,s24,s25,s26,s27,s28,s29,s30,s31,s32,s33,s34,s35,s36,s37,s38,s39,s40,s41,s42,s43,s44,s45,s46,s47,s48,s49,s50,s51,s52,s53,s54,s55,s56,s57,s58,s59,s60,s61,t62,t63,t64,t65,t66,s67,s68],[]⟩ W) :
 Code.wp Tryz.prog ((Tryz.f100.body.bind (regOf 12)).getD .skip) Q ⟨#[s0,s1,s2,.pointer (some ⟨bz,0,none⟩),s4,s5,s6,s7,s8,.pointer (some ⟨g,0,none⟩),s10,s11,s12,s13,s14,s15,s16,s17,s18,s19,s20,s21,s22,s23,s24,s25,s26,s27,s28,s29,s30,s31,s32,s33,s34,s35,s36,s37,s38,s39,s40,s41,s42,s43,s44,s45,s46,s47,s48,s49,s50,s51,s52,s53,s54,s55,s56,s57,s58,s59,s60,s61,s62,s63,s64,s65,s66,s67,s68],[]⟩ wc:=by
 have hsg: -1≤u.sign∧u.sign≤1:=by
  rcases Int.lt_trichotomy u 0 with h|h|h
  · rw [Int.sign_eq_neg_one_of_neg h];omega
  · rw [h];decide
  · rw [Int.sign_eq_one_of_pos h];omega
 have HQ:=Lib.hid hQ
 have HY:=Lib.hid hY
 have HR:=Lib.hid hR
 have HP:=Lib.hid hP
 have HPG:=Lib.hid hPg
 have HFY:=Lib.hid hy
 have HFG:=Lib.hid hg
 have y0:=hy.get 0 rfl
 have y1:=hy.get 1 rfl
 have g0:=hg.get 0 rfl
 have g1:=hg.get 1 rfl
 have e0:=hg.frz 0 rfl
 have e1:=hg.frz 1 rfl
 have hlg:g<wc.heap.size:=hg.1
 have hly:bz<wc.heap.size:=hy.1
 clear hQ hY hR hP hPg hy hg
 conv=>arg 2;whnf
 go_region_with (first
  | (go_at_call 90;go_must (with_reducible refine(c_Sign (P:=P) (HY.out.below blo)).mono ?_);rintro e w1 ⟨rfl,hb1⟩;have HFG1:=Lib.hid (show Fr [(g,0,.bool rv.b),(g,1,.slice rv.A rv.n rv.c)] (g+1) w1 from HFG.out.below (show Below wc.heap.size wc w1 from blo) HFG.out.1);have HFY1:=Lib.hid (show Fr [(bz,0,.bool yv.b),(bz,1,.slice yv.A yv.n yv.c)] (bz+1) w1 from HFY.out.below (show Below wc.heap.size wc w1 from blo) HFY.out.1);have c10:=HFG1.out.get 0 rfl;have c11:=HFG1.out.get 1 rfl;have d10:=HFG1.out.frz 0 rfl;have d11:=HFG1.out.frz 1 rfl;have k10:=HFY1.out.get 0 rfl;have k11:=HFY1.out.get 1 rfl;have hz1:g<w1.heap.size:=HFG1.out.1)
  | (go_at_call 59;go_must (with_reducible refine(c_Of (P:=P) u.sign (by omega) (by omega) (fresh HP.out blo)).mono ?_);rintro e w3 ⟨oy,rfl,hoy,hb3⟩;have HOY:=Lib.hid hoy;clear hoy;have HFG3:=Lib.hid (show Fr [(g,0,.bool rv.b),(g,1,.slice rv.A rv.n rv.c)] (g+1) w3 from HFG.out.below (show Below wc.heap.size wc w3 from blo) HFG.out.1);have HFY3:=Lib.hid (show Fr [(bz,0,.bool yv.b),(bz,1,.slice yv.A yv.n yv.c)] (bz+1) w3 from HFY.out.below (show Below wc.heap.size wc w3 from blo) HFY.out.1);have c30:=HFG3.out.get 0 rfl;have c31:=HFG3.out.get 1 rfl;have d30:=HFG3.out.frz 0 rfl;have d31:=HFG3.out.frz 1 rfl;have k30:=HFY3.out.get 0 rfl;have k31:=HFY3.out.get 1 rfl;have hz3:g<w3.heap.size:=HFG3.out.1)
  | (go_at_call 119;go_must (with_reducible refine(c_Sub (P:=P) (K:=K+3) ((HR.out.wide (by omega)).below blo) ((HOY.out.wide (by omega)).below blo) (by omega) (fresh HP.out blo)).mono ?_);rintro e w2 ⟨r1,rfl,hr1,hb2⟩;have HR1:=Lib.hid hr1;clear hr1;have HFG2:=Lib.hid (show Fr [(g,0,.bool rv.b),(g,1,.slice rv.A rv.n rv.c)] (g+1) w2 from HFG.out.below (show Below wc.heap.size wc w2 from blo) HFG.out.1);have HFY2:=Lib.hid (show Fr [(bz,0,.bool yv.b),(bz,1,.slice yv.A yv.n yv.c)] (bz+1) w2 from HFY.out.below (show Below wc.heap.size wc w2 from blo) HFY.out.1);have c20:=HFG2.out.get 0 rfl;have c21:=HFG2.out.get 1 rfl;have d20:=HFG2.out.frz 0 rfl;have d21:=HFG2.out.frz 1 rfl;have k20:=HFY2.out.get 0 rfl;have k21:=HFY2.out.get 1 rfl;have hz2:g<w2.heap.size:=HFG2.out.1))
 all_goals (refine HQ.out r1 _ _ _ _ _ _ ?_ (HFG2.out.box) ((((Kp.refl g wc).go blo).set 0 _).set 1 _))
 all_goals exact((HR1.out.kp ((Kp.refl g w2).set 0 _) HPG.out).kp ((Kp.refl g _).set 1 _) HPG.out)
end Go.Proofs.YtpdghgfbfmaplaaGreatDoor.Wh
end
