/- Lemmas for RatLists. -/
import Derived.Test.YtpdghgfbfmaplaaGreatDoorZRatE
set_option maxRecDepth 100000
set_option maxHeartbeats 8000000
section
set_option linter.unusedVariables false
set_option linter.unusedSimpArgs false
namespace Go.Proofs.YtpdghgfbfmaplaaGreatDoor.Wh
open Go.RowKit Go.Proofs.YtpdghgfbfmaplaaGreatDoorW.PrintWords Go.Proofs.YtpdghgfbfmaplaaGreatDoor.Num Go.Proofs.YtpdghgfbfmaplaaGreatDoor.Dec
section
variable {w:World}
theorem simp_bd{n:Nat}{q p:Rat}(hq:0<q)(hp:q≤p)(hn:q.den+p.den≤n):(simpF n q p).num.natAbs≤p.num.natAbs∧(simpF n q p).den≤p.den:=by
 obtain⟨h1,h2,h3⟩:=simp_spec n q p hq hp hn
 obtain⟨h4,h5⟩:=h3 p hp Rat.le_refl
 have h6:0<(simpF n q p).num:=num_pos.2 (by grind)
 omega
theorem sign_p{q:Rat}(h:0<q):0<q.num.sign:=by rw [Int.sign_eq_one_of_pos (num_pos.2 h)];decide
theorem sign_np{q:Rat}(h:q≤0):q.num.sign≤0:=by
 have h1:¬0<q.num:=fun h2=>by have:=num_pos.1 h2;grind
 rcases Int.lt_trichotomy q.num 0 with h2|h2|h2
 · rw [Int.sign_eq_neg_one_of_neg h2];decide
 · rw [h2];decide
 · exact absurd h2 h1
def SimpSaid(n:Nat):Prop:=∀(P:Nat→Prop) (w:World) (x y:FV) (q p:Rat),IsF P 34 w x q→IsF P 34 w y p→0<q→q≤p→q.den+p.den≤n→(∀k,w.heap.size≤k→P k) →
 Calls Tryz.prog 49 #[.agg #[.bool x.num.b,.slice x.num.A x.num.n x.num.c,.bool x.den.b,.slice x.den.A x.den.n x.den.c],.agg #[.bool y.num.b,.slice y.num.A y.num.n y.num.c,.bool y.den.b,.slice y.den.A y.den.n y.den.c]] w fun e w'=>∃r:FV,e=.returned (.agg #[.bool r.num.b,.slice r.num.A r.num.n r.num.c,.bool r.den.b,.slice r.den.A r.den.n r.den.c])∧IsF P 34 w' r (simpF n q p)∧Below w.heap.size w w'
theorem simplest_i(n:Nat)(P:Nat→Prop)(w:World)(x y:FV)(q p:Rat)(hx:IsF P 34 w x q)(hy:IsF P 34 w y p)(hq:0<q)(hp:q≤p)(hn:q.den+p.den≤n+1)(hP:∀k,w.heap.size≤k→P k)(hi:q.den=1) :
 Calls Tryz.prog 49 #[.agg #[.bool x.num.b,.slice x.num.A x.num.n x.num.c,.bool x.den.b,.slice x.den.A x.den.n x.den.c],.agg #[.bool y.num.b,.slice y.num.A y.num.n y.num.c,.bool y.den.b,.slice y.den.A y.den.n y.den.c]] w fun e w'=>∃r:FV,e=.returned (.agg #[.bool r.num.b,.slice r.num.A r.num.n r.num.c,.bool r.den.b,.slice r.den.A r.den.n r.den.c])∧IsF P 34 w' r (simpF (n+1) q p)∧Below w.heap.size w w':=by
 have HBD:=Lib.hid (simp_bd hq hp hn)
 have HX:=Lib.hid (hx.gap 3)
 have HY:=Lib.hid (hy.gap 3)
 have HYT:=Lib.hid (And.intro hy.bdn hy.bdd)
 have HP:=Lib.hid hP
 have HI:=Lib.hid (decide_eq_true hi)
 have HE:=Lib.hid (show simpF (n+1) q p=q from by rw [simpF];exact if_pos hi)
 clear hi
 clear hx hy hP hq hp hn
 have HF0:=Lib.hid (show Fr [(w.heap.size,0,(.bool x.num.b)),(w.heap.size,1,(.slice x.num.A x.num.n x.num.c)),(w.heap.size,2,(.bool x.den.b)),(w.heap.size,3,(.slice x.den.A x.den.n x.den.c)),(w.heap.size+1,0,(.bool y.num.b)),(w.heap.size+1,1,(.slice y.num.A y.num.n y.num.c)),(w.heap.size+1,2,(.bool y.den.b)),(w.heap.size+1,3,(.slice y.den.A y.den.n y.den.c)),(w.heap.size+1+1,0,(.bool false)),(w.heap.size+1+1,1,(.slice none 0 0)),(w.heap.size+1+1,2,(.bool false)),(w.heap.size+1+1,3,(.slice none 0 0))] (w.heap.size+1+1+1) (((w.alloc (.cells #[.bool x.num.b,.slice x.num.A x.num.n x.num.c,.bool x.den.b,.slice x.den.A x.den.n x.den.c] 52)).alloc (.cells #[.bool y.num.b,.slice y.num.A y.num.n y.num.c,.bool y.den.b,.slice y.den.A y.den.n y.den.c] 52)).alloc (.cells #[.bool false,.slice none 0 0,.bool false,.slice none 0 0] 52))from frq)
 go_enter Tryz.func49,Tryz.ntmps49
 go_wp2_with fail
 refine(c_FFloor (P:=Gp P w.heap.size 3) (HX.out.below blq) (by omega) (gap_fresh HP.out blq arq)).mono ?_
 rintro e w1 ⟨l,rfl,hl,hb1⟩
 have HF1:=fgo w1 HF0
 have hz1:=HF1.out.1
 obtain⟨hl1_0,hl1_1,hl1_2⟩:=lt3 hz1
 obtain⟨_,_,_,_,_,_,_,_,_,_,_,_,-⟩:=HF1.out.alls 0 12
 obtain⟨_,_,_,_,-⟩:=HF1.out.falls 8 4
 have HL:=Lib.hid (show IsF (Gp P w.heap.size 3) 35 _ l ((q.floor:Int):Rat)from (by rw [floor_q];exact hl.wide (by omega)))
 clear hl
 have HFb1:=Lib.hid (HF1.out.new4 (.bool l.num.b) (.slice l.num.A l.num.n l.num.c) (.bool l.den.b) (.slice l.den.A l.den.n l.den.c) 52)
 go_wp2_with fail
 refine(c_FInteger' (HX.out.below blq) HI.out).mono ?_
 rintro e w2 ⟨rfl,hb2⟩
 have HF2:=fgo w2 HFb1
 have hz2:=HF2.out.1
 have hl2_0:w.heap.size<w2.heap.size:=(by omega)
 have hl2_1:w.heap.size+1<w2.heap.size:=(by omega)
 have hl2_2:w.heap.size+1+1<w2.heap.size:=(by omega)
 have hx2_0:w1.heap.size<w2.heap.size:=(by omega)
 obtain⟨_,_,_,_,_,_,_,_,_,_,_,_,q2_12,q2_13,q2_14,q2_15,-⟩:=HF2.out.alls 0 16
 obtain⟨_,_,_,_,-⟩:=HF2.out.falls 12 4
 go_wp2_with fail
 refine bodyPost_ret (v:=.agg #[.bool x.num.b,.slice x.num.A x.num.n x.num.c,.bool x.den.b,.slice x.den.A x.den.n x.den.c]) (by simp [results,Tryz.results49,go_sem,q2_12,q2_13,q2_14,q2_15]) rfl ⟨x,rfl,IsF.ungap (s:=w.heap.size) (n:=3) ?_,blq⟩
 · rw [HE.out];exact((((HX.out.below blq).put _ arq arq).put _ arq arq).put _ arq arq).put _ arq arq
theorem simplest_b(n:Nat)(P:Nat→Prop)(w:World)(x y:FV)(q p:Rat)(hx:IsF P 34 w x q)(hy:IsF P 34 w y p)(hq:0<q)(hp:q≤p)(hn:q.den+p.den≤n+1)(hP:∀k,w.heap.size≤k→P k)(hi:¬q.den=1)(hf:q.floor<p.floor) :
 Calls Tryz.prog 49 #[.agg #[.bool x.num.b,.slice x.num.A x.num.n x.num.c,.bool x.den.b,.slice x.den.A x.den.n x.den.c],.agg #[.bool y.num.b,.slice y.num.A y.num.n y.num.c,.bool y.den.b,.slice y.den.A y.den.n y.den.c]] w fun e w'=>∃r:FV,e=.returned (.agg #[.bool r.num.b,.slice r.num.A r.num.n r.num.c,.bool r.den.b,.slice r.den.A r.den.n r.den.c])∧IsF P 34 w' r (simpF (n+1) q p)∧Below w.heap.size w w':=by
 have HBD:=Lib.hid (simp_bd hq hp hn)
 have HX:=Lib.hid (hx.gap 3)
 have HY:=Lib.hid (hy.gap 3)
 have HYT:=Lib.hid (And.intro hy.bdn hy.bdd)
 have HP:=Lib.hid hP
 have HI:=Lib.hid (decide_eq_false hi)
 have HS:=Lib.hid (show(((q.floor:Int):Rat)-((p.floor:Int):Rat)).num.sign= -1 from by rw [←Rat.intCast_sub];exact Int.sign_eq_neg_one_of_neg (show q.floor-p.floor<0 by omega))
 have HE:=Lib.hid (show simpF (n+1) q p=((q.floor:Int):Rat)+1 from by rw [simpF];exact(if_neg hi).trans (if_pos hf))
 clear hi hf
 clear hx hy hP hq hp hn
 have HF0:=Lib.hid (show Fr [(w.heap.size,0,(.bool x.num.b)),(w.heap.size,1,(.slice x.num.A x.num.n x.num.c)),(w.heap.size,2,(.bool x.den.b)),(w.heap.size,3,(.slice x.den.A x.den.n x.den.c)),(w.heap.size+1,0,(.bool y.num.b)),(w.heap.size+1,1,(.slice y.num.A y.num.n y.num.c)),(w.heap.size+1,2,(.bool y.den.b)),(w.heap.size+1,3,(.slice y.den.A y.den.n y.den.c)),(w.heap.size+1+1,0,(.bool false)),(w.heap.size+1+1,1,(.slice none 0 0)),(w.heap.size+1+1,2,(.bool false)),(w.heap.size+1+1,3,(.slice none 0 0))] (w.heap.size+1+1+1) (((w.alloc (.cells #[.bool x.num.b,.slice x.num.A x.num.n x.num.c,.bool x.den.b,.slice x.den.A x.den.n x.den.c] 52)).alloc (.cells #[.bool y.num.b,.slice y.num.A y.num.n y.num.c,.bool y.den.b,.slice y.den.A y.den.n y.den.c] 52)).alloc (.cells #[.bool false,.slice none 0 0,.bool false,.slice none 0 0] 52))from frq)
 go_enter Tryz.func49,Tryz.ntmps49
 go_wp2_with fail
 refine(c_FFloor (P:=Gp P w.heap.size 3) (HX.out.below blq) (by omega) (gap_fresh HP.out blq arq)).mono ?_
 rintro e w1 ⟨l,rfl,hl,hb1⟩
 have HF1:=fgo w1 HF0
 have hz1:=HF1.out.1
 obtain⟨hl1_0,hl1_1,hl1_2⟩:=lt3 hz1
 obtain⟨_,_,_,_,_,_,_,_,_,_,_,_,-⟩:=HF1.out.alls 0 12
 obtain⟨_,_,_,_,-⟩:=HF1.out.falls 8 4
 have HL:=Lib.hid (show IsF (Gp P w.heap.size 3) 35 _ l ((q.floor:Int):Rat)from (by rw [floor_q];exact hl.wide (by omega)))
 clear hl
 have HFb1:=Lib.hid (HF1.out.new4 (.bool l.num.b) (.slice l.num.A l.num.n l.num.c) (.bool l.den.b) (.slice l.den.A l.den.n l.den.c) 52)
 go_wp2_with fail
 refine(c_FInteger' (HX.out.below blq) HI.out).mono ?_
 rintro e w2 ⟨rfl,hb2⟩
 have HF2:=fgo w2 HFb1
 have hz2:=HF2.out.1
 have hl2_0:w.heap.size<w2.heap.size:=(by omega)
 have hl2_1:w.heap.size+1<w2.heap.size:=(by omega)
 have hl2_2:w.heap.size+1+1<w2.heap.size:=(by omega)
 have hx2_0:w1.heap.size<w2.heap.size:=(by omega)
 obtain⟨_,_,_,_,_,_,_,_,_,_,_,_,_,_,_,_,-⟩:=HF2.out.alls 0 16
 obtain⟨_,_,_,_,-⟩:=HF2.out.falls 12 4
 go_wp2_with fail
 refine OrdL.begin_ (S:=fun W=>W.cell? ⟨w1.heap.size,0,none⟩=some (.bool l.num.b)∧W.cell? ⟨w1.heap.size,1,none⟩=some (.slice l.num.A l.num.n l.num.c)∧W.cell? ⟨w1.heap.size,2,none⟩=some (.bool l.den.b)∧W.cell? ⟨w1.heap.size,3,none⟩=some (.slice l.den.A l.den.n l.den.c)∧W.cell? ⟨w.heap.size,0,none⟩=some (.bool x.num.b)∧W.cell? ⟨w.heap.size,1,none⟩=some (.slice x.num.A x.num.n x.num.c)∧W.cell? ⟨w.heap.size,2,none⟩=some (.bool x.den.b)∧W.cell? ⟨w.heap.size,3,none⟩=some (.slice x.den.A x.den.n x.den.c)∧W.cell? ⟨w.heap.size+1,0,none⟩=some (.bool y.num.b)∧W.cell? ⟨w.heap.size+1,1,none⟩=some (.slice y.num.A y.num.n y.num.c)∧W.cell? ⟨w.heap.size+1,2,none⟩=some (.bool y.den.b)∧W.cell? ⟨w.heap.size+1,3,none⟩=some (.slice y.den.A y.den.n y.den.c)∧W.cell? ⟨w.heap.size+1+1,0,none⟩=some (.bool false)∧W.cell? ⟨w.heap.size+1+1,1,none⟩=some (.slice none 0 0)∧W.cell? ⟨w.heap.size+1+1,2,none⟩=some (.bool false)∧W.cell? ⟨w.heap.size+1+1,3,none⟩=some (.slice none 0 0)) [] [] (by kernel_rfl) ?_ (fun hHeld=>?_)
 focus ((try dsimp only);exact(HF2.out.go blq).all 0 16)
 refine OrdL.tk 0 (some 14) ?_
 refine nw ?_
 refine OrdL.tk 1 (some 15) ?_
 refine nw ?_
 refine OrdL.st 2 fun Kc hKc=>?_
 refine nv ?_
 go_simp
 refine(c_FFloor (P:=Gp P w.heap.size 3) (HY.out.below blq) (by omega) (gap_fresh HP.out blq arq)).mono ?_
 rintro e w3 ⟨m,rfl,hm,hb3⟩
 have HF3:=fgo w3 HF2
 have hz3:=HF3.out.1
 have hl3_0:w.heap.size<w3.heap.size:=(by omega)
 have hl3_1:w.heap.size+1<w3.heap.size:=(by omega)
 have hl3_2:w.heap.size+1+1<w3.heap.size:=(by omega)
 have hx3_0:w1.heap.size<w3.heap.size:=(by omega)
 obtain⟨_,_,_,_,_,_,_,_,_,_,_,_,_,_,_,_,-⟩:=HF3.out.alls 0 16
 obtain⟨_,_,_,_,-⟩:=HF3.out.falls 12 4
 have HM:=Lib.hid (show IsF (Gp P w.heap.size 3) 35 _ m ((p.floor:Int):Rat)from (by rw [floor_q];exact hm.wide (by omega)))
 clear hm
 go_wp2_with fail
 refine hKc.out _ _ ?_ (fun hHeld=>?_)
 focus ((try dsimp only);exact(HF3.out.go blq).all 0 16)
 clear hKc Kc
 refine nw ?_
 refine OrdL.st 3 fun Kc hKc=>?_
 refine nv ?_
 go_simp
 refine(c_FCmp' (P:=Gp P w.heap.size 3) (K:=35) (HL.out.below blq) (HM.out.below blq) (by omega) (gap_fresh HP.out blq arq) HS.out).mono ?_
 rintro e w4 ⟨rfl,hb4⟩
 have HF4:=fgo w4 HF3
 have hz4:=HF4.out.1
 have hl4_0:w.heap.size<w4.heap.size:=(by omega)
 have hl4_1:w.heap.size+1<w4.heap.size:=(by omega)
 have hl4_2:w.heap.size+1+1<w4.heap.size:=(by omega)
 have hx4_0:w1.heap.size<w4.heap.size:=(by omega)
 obtain⟨_,_,_,_,_,_,_,_,_,_,_,_,_,_,_,_,-⟩:=HF4.out.alls 0 16
 obtain⟨_,_,_,_,-⟩:=HF4.out.falls 12 4
 go_wp2_with fail
 refine hKc.out _ _ ?_ (fun hHeld=>?_)
 focus ((try dsimp only);exact(HF4.out.go blq).all 0 16)
 clear hKc Kc
 refine nw ?_
 refine OrdL.tk 4 (some 18) ?_
 refine nw ?_
 refine OrdL.tk 5 (some 13) ?_
 refine nw ?_
 refine OrdL.done (by kernel_rfl) ?_ _
 go_wp2_with fail
 refine OrdL.begin_ (S:=fun W=>W.cell? ⟨w1.heap.size,0,none⟩=some (.bool l.num.b)∧W.cell? ⟨w1.heap.size,1,none⟩=some (.slice l.num.A l.num.n l.num.c)∧W.cell? ⟨w1.heap.size,2,none⟩=some (.bool l.den.b)∧W.cell? ⟨w1.heap.size,3,none⟩=some (.slice l.den.A l.den.n l.den.c)∧W.cell? ⟨w.heap.size,0,none⟩=some (.bool x.num.b)∧W.cell? ⟨w.heap.size,1,none⟩=some (.slice x.num.A x.num.n x.num.c)∧W.cell? ⟨w.heap.size,2,none⟩=some (.bool x.den.b)∧W.cell? ⟨w.heap.size,3,none⟩=some (.slice x.den.A x.den.n x.den.c)∧W.cell? ⟨w.heap.size+1,0,none⟩=some (.bool y.num.b)∧W.cell? ⟨w.heap.size+1,1,none⟩=some (.slice y.num.A y.num.n y.num.c)∧W.cell? ⟨w.heap.size+1,2,none⟩=some (.bool y.den.b)∧W.cell? ⟨w.heap.size+1,3,none⟩=some (.slice y.den.A y.den.n y.den.c)∧W.cell? ⟨w.heap.size+1+1,0,none⟩=some (.bool false)∧W.cell? ⟨w.heap.size+1+1,1,none⟩=some (.slice none 0 0)∧W.cell? ⟨w.heap.size+1+1,2,none⟩=some (.bool false)∧W.cell? ⟨w.heap.size+1+1,3,none⟩=some (.slice none 0 0)) [] [3] (by kernel_rfl) ?_ (fun hHeld=>?_)
 focus ((try dsimp only);exact(HF4.out.go blq).all 0 16)
 refine OrdL.tk 0 (some 19) ?_
 refine nw ?_
 refine OrdL.st 1 fun Kc hKc=>?_
 refine nv ?_
 go_simp
 refine(c_FOf (P:=Gp P w.heap.size 3) 1 (by omega) (by omega) (gap_fresh HP.out blq arq)).mono ?_
 rintro e w5 ⟨one,rfl,ho,hb5⟩
 have HO:=Lib.hid ho;clear ho
 have HF5:=fgo w5 HF4
 have hz5:=HF5.out.1
 have hl5_0:w.heap.size<w5.heap.size:=(by omega)
 have hl5_1:w.heap.size+1<w5.heap.size:=(by omega)
 have hl5_2:w.heap.size+1+1<w5.heap.size:=(by omega)
 have hx5_0:w1.heap.size<w5.heap.size:=(by omega)
 obtain⟨_,_,_,_,_,_,_,_,_,_,_,_,_,_,_,_,-⟩:=HF5.out.alls 0 16
 obtain⟨_,_,_,_,-⟩:=HF5.out.falls 12 4
 go_wp2_with fail
 refine hKc.out _ _ ?_ (fun hHeld=>?_)
 focus ((try dsimp only);exact(HF5.out.go blq).all 0 16)
 clear hKc Kc
 refine nw ?_
 refine OrdL.st 2 fun Kc hKc=>?_
 refine nv ?_
 go_simp
 refine(c_FAdd (P:=Gp P w.heap.size 3) (K:=35) (HL.out.below blq) ((HO.out.wide (by omega)).below blq) (by omega) (gap_fresh HP.out blq arq)).mono ?_
 rintro e w6 ⟨r,rfl,hr,hb6⟩
 have HR:=Lib.hid hr;clear hr
 have HF6:=fgo w6 HF5
 have hz6:=HF6.out.1
 have hl6_0:w.heap.size<w6.heap.size:=(by omega)
 have hl6_1:w.heap.size+1<w6.heap.size:=(by omega)
 have hl6_2:w.heap.size+1+1<w6.heap.size:=(by omega)
 have hx6_0:w1.heap.size<w6.heap.size:=(by omega)
 obtain⟨_,_,_,_,_,_,_,_,_,_,_,_,q6_12,q6_13,q6_14,q6_15,-⟩:=HF6.out.alls 0 16
 obtain⟨_,_,_,_,-⟩:=HF6.out.falls 12 4
 go_wp2_with fail
 refine hKc.out _ _ ?_ (fun hHeld=>?_)
 focus ((try dsimp only);exact(HF6.out.go blq).all 0 16)
 clear hKc Kc
 refine nw ?_
 refine OrdL.last (i:=3) rfl (by decide) (by decide) (by kernel_rfl) (fun Kc hKc=>?_)
 refine nv ?_
 go_simp
 refine hKc.out _ _ ?_
 clear hKc Kc
 refine nw ?_
 refine OrdL.done (by kernel_rfl) ?_ _
 have HRT:=Lib.hid (show IsF (Gp P w.heap.size 3) 34 _ r (simpF (n+1) q p)from (by rw [HE.out];exact IsF.tight HR.out (by have:=HBD.out.1;rw [HE.out]at this;exact Nat.lt_of_le_of_lt this HYT.out.1) (by have:=HBD.out.2;rw [HE.out]at this;exact Nat.lt_of_le_of_lt this HYT.out.2)))
 go_wp2_with fail
 refine bodyPost_ret (v:=.agg #[.bool r.num.b,.slice r.num.A r.num.n r.num.c,.bool r.den.b,.slice r.den.A r.den.n r.den.c]) (by simp [results,Tryz.results49,go_sem,q6_12,q6_13,q6_14,q6_15]) rfl ⟨r,rfl,IsF.ungap (s:=w.heap.size) (n:=3) ?_,blq⟩
 · exact(((HRT.out.put _ arq arq).put _ arq arq).put _ arq arq).put _ arq arq
theorem simplest_s(n:Nat)(P:Nat→Prop)(w:World)(x y:FV)(q p:Rat)(hx:IsF P 34 w x q)(hy:IsF P 34 w y p)(hq:0<q)(hp:q≤p)(hn:q.den+p.den≤n+1)(hP:∀k,w.heap.size≤k→P k)(hi:¬q.den=1)(hf:¬q.floor<p.floor)(ih:SimpSaid n) :
 Calls Tryz.prog 49 #[.agg #[.bool x.num.b,.slice x.num.A x.num.n x.num.c,.bool x.den.b,.slice x.den.A x.den.n x.den.c],.agg #[.bool y.num.b,.slice y.num.A y.num.n y.num.c,.bool y.den.b,.slice y.den.A y.den.n y.den.c]] w fun e w'=>∃r:FV,e=.returned (.agg #[.bool r.num.b,.slice r.num.A r.num.n r.num.c,.bool r.den.b,.slice r.den.A r.den.n r.den.c])∧IsF P 34 w' r (simpF (n+1) q p)∧Below w.heap.size w w':=by
 have HBD:=Lib.hid (simp_bd hq hp hn)
 have HX:=Lib.hid (hx.gap 3)
 have HY:=Lib.hid (hy.gap 3)
 have HYT:=Lib.hid (And.intro hy.bdn hy.bdd)
 have HP:=Lib.hid hP
 have HI:=Lib.hid (decide_eq_false hi)
 have HIH:=Lib.hid ih
 have HS:=Lib.hid (show(((q.floor:Int):Rat)-((p.floor:Int):Rat)).num.sign=0 from by rw [←Rat.intCast_sub,show q.floor-p.floor=0 by have:=floor_mono hp;omega];rfl)
 have HE:=Lib.hid (show simpF (n+1) q p=((q.floor:Int):Rat)+1/simpF n (1/(p-(q.floor:Rat))) (1/(q-(q.floor:Rat)))from by rw [simpF];exact(if_neg hi).trans (if_neg hf))
 obtain⟨a1,a2,a3⟩:=simp_sub hq hi Rat.le_refl (by omega)
 obtain⟨b1,b2,b3⟩:=simp_sub hq hi hp hf
 obtain⟨k1,k2⟩:=sub_parts q q.floor
 obtain⟨d1,d2⟩:=sub_parts p q.floor
 obtain⟨f1,f2⟩:=inv_parts a1
 obtain⟨g1,g2⟩:=inv_parts b1
 have HNZ1:=Lib.hid (show p-(q.floor:Rat)≠0 from fun h=>by rw [h]at b3;exact absurd b3 Rat.lt_irrefl)
 have HNZ2:=Lib.hid (show q-(q.floor:Rat)≠0 from fun h=>by rw [h]at a3;exact absurd a3 Rat.lt_irrefl)
 have HT1:=Lib.hid (show(1/(p-(q.floor:Rat))).num.natAbs<1000000000^34∧(1/(p-(q.floor:Rat))).den<1000000000^34 from⟨Nat.lt_of_le_of_lt (show _≤p.den by omega) hy.bdd,Nat.lt_of_le_of_lt (show _≤p.den by omega) hy.bdd⟩)
 have HT2:=Lib.hid (show(1/(q-(q.floor:Rat))).num.natAbs<1000000000^34∧(1/(q-(q.floor:Rat))).den<1000000000^34 from⟨Nat.lt_of_le_of_lt (show _≤q.den by omega) hx.bdd,Nat.lt_of_le_of_lt (show _≤q.den by omega) hx.bdd⟩)
 have hr1:=inv_pos b3
 have hr2:1/(p-(q.floor:Rat))≤1/(q-(q.floor:Rat)):=inv_le a3 (by grind)
 have hr3:(1/(p-(q.floor:Rat))).den+(1/(q-(q.floor:Rat))).den≤n:=by omega
 have HR1:=Lib.hid hr1
 have HR2:=Lib.hid hr2
 have HR3:=Lib.hid hr3
 have HNZ3:=Lib.hid (show simpF n (1/(p-(q.floor:Rat))) (1/(q-(q.floor:Rat)))≠0 from fun h=>by have h9:=(simp_spec n _ _ hr1 hr2 hr3).1;rw [h]at h9;grind)
 clear a1 a2 a3 b1 b2 b3 k1 k2 d1 d2 f1 f2 g1 g2 hr1 hr2 hr3 hi hf ih
 clear hx hy hP hq hp hn
 have HF0:=Lib.hid (show Fr [(w.heap.size,0,(.bool x.num.b)),(w.heap.size,1,(.slice x.num.A x.num.n x.num.c)),(w.heap.size,2,(.bool x.den.b)),(w.heap.size,3,(.slice x.den.A x.den.n x.den.c)),(w.heap.size+1,0,(.bool y.num.b)),(w.heap.size+1,1,(.slice y.num.A y.num.n y.num.c)),(w.heap.size+1,2,(.bool y.den.b)),(w.heap.size+1,3,(.slice y.den.A y.den.n y.den.c)),(w.heap.size+1+1,0,(.bool false)),(w.heap.size+1+1,1,(.slice none 0 0)),(w.heap.size+1+1,2,(.bool false)),(w.heap.size+1+1,3,(.slice none 0 0))] (w.heap.size+1+1+1) (((w.alloc (.cells #[.bool x.num.b,.slice x.num.A x.num.n x.num.c,.bool x.den.b,.slice x.den.A x.den.n x.den.c] 52)).alloc (.cells #[.bool y.num.b,.slice y.num.A y.num.n y.num.c,.bool y.den.b,.slice y.den.A y.den.n y.den.c] 52)).alloc (.cells #[.bool false,.slice none 0 0,.bool false,.slice none 0 0] 52))from frq)
 go_enter Tryz.func49,Tryz.ntmps49
 go_wp2_with fail
 refine(c_FFloor (P:=Gp P w.heap.size 3) (HX.out.below blq) (by omega) (gap_fresh HP.out blq arq)).mono ?_
 rintro e w1 ⟨l,rfl,hl,hb1⟩
 have HF1:=fgo w1 HF0
 have hz1:=HF1.out.1
 obtain⟨hl1_0,hl1_1,hl1_2⟩:=lt3 hz1
 obtain⟨_,_,_,_,_,_,_,_,_,_,_,_,-⟩:=HF1.out.alls 0 12
 obtain⟨_,_,_,_,-⟩:=HF1.out.falls 8 4
 have HL:=Lib.hid (show IsF (Gp P w.heap.size 3) 35 _ l ((q.floor:Int):Rat)from (by rw [floor_q];exact hl.wide (by omega)))
 clear hl
 have HFb1:=Lib.hid (HF1.out.new4 (.bool l.num.b) (.slice l.num.A l.num.n l.num.c) (.bool l.den.b) (.slice l.den.A l.den.n l.den.c) 52)
 go_wp2_with fail
 refine(c_FInteger' (HX.out.below blq) HI.out).mono ?_
 rintro e w2 ⟨rfl,hb2⟩
 have HF2:=fgo w2 HFb1
 have hz2:=HF2.out.1
 have hl2_0:w.heap.size<w2.heap.size:=(by omega)
 have hl2_1:w.heap.size+1<w2.heap.size:=(by omega)
 have hl2_2:w.heap.size+1+1<w2.heap.size:=(by omega)
 have hx2_0:w1.heap.size<w2.heap.size:=(by omega)
 obtain⟨_,_,_,_,_,_,_,_,_,_,_,_,_,_,_,_,-⟩:=HF2.out.alls 0 16
 obtain⟨_,_,_,_,-⟩:=HF2.out.falls 12 4
 go_wp2_with fail
 refine OrdL.begin_ (S:=fun W=>W.cell? ⟨w1.heap.size,0,none⟩=some (.bool l.num.b)∧W.cell? ⟨w1.heap.size,1,none⟩=some (.slice l.num.A l.num.n l.num.c)∧W.cell? ⟨w1.heap.size,2,none⟩=some (.bool l.den.b)∧W.cell? ⟨w1.heap.size,3,none⟩=some (.slice l.den.A l.den.n l.den.c)∧W.cell? ⟨w.heap.size,0,none⟩=some (.bool x.num.b)∧W.cell? ⟨w.heap.size,1,none⟩=some (.slice x.num.A x.num.n x.num.c)∧W.cell? ⟨w.heap.size,2,none⟩=some (.bool x.den.b)∧W.cell? ⟨w.heap.size,3,none⟩=some (.slice x.den.A x.den.n x.den.c)∧W.cell? ⟨w.heap.size+1,0,none⟩=some (.bool y.num.b)∧W.cell? ⟨w.heap.size+1,1,none⟩=some (.slice y.num.A y.num.n y.num.c)∧W.cell? ⟨w.heap.size+1,2,none⟩=some (.bool y.den.b)∧W.cell? ⟨w.heap.size+1,3,none⟩=some (.slice y.den.A y.den.n y.den.c)∧W.cell? ⟨w.heap.size+1+1,0,none⟩=some (.bool false)∧W.cell? ⟨w.heap.size+1+1,1,none⟩=some (.slice none 0 0)∧W.cell? ⟨w.heap.size+1+1,2,none⟩=some (.bool false)∧W.cell? ⟨w.heap.size+1+1,3,none⟩=some (.slice none 0 0)) [] [] (by kernel_rfl) ?_ (fun hHeld=>?_)
 focus ((try dsimp only);exact(HF2.out.go blq).all 0 16)
 refine OrdL.tk 0 (some 14) ?_
 refine nw ?_
 refine OrdL.tk 1 (some 15) ?_
 refine nw ?_
 refine OrdL.st 2 fun Kc hKc=>?_
 refine nv ?_
 go_simp
 refine(c_FFloor (P:=Gp P w.heap.size 3) (HY.out.below blq) (by omega) (gap_fresh HP.out blq arq)).mono ?_
 rintro e w3 ⟨m,rfl,hm,hb3⟩
 have HF3:=fgo w3 HF2
 have hz3:=HF3.out.1
 have hl3_0:w.heap.size<w3.heap.size:=(by omega)
 have hl3_1:w.heap.size+1<w3.heap.size:=(by omega)
 have hl3_2:w.heap.size+1+1<w3.heap.size:=(by omega)
 have hx3_0:w1.heap.size<w3.heap.size:=(by omega)
 obtain⟨_,_,_,_,_,_,_,_,_,_,_,_,_,_,_,_,-⟩:=HF3.out.alls 0 16
 obtain⟨_,_,_,_,-⟩:=HF3.out.falls 12 4
 have HM:=Lib.hid (show IsF (Gp P w.heap.size 3) 35 _ m ((p.floor:Int):Rat)from (by rw [floor_q];exact hm.wide (by omega)))
 clear hm
 go_wp2_with fail
 refine hKc.out _ _ ?_ (fun hHeld=>?_)
 focus ((try dsimp only);exact(HF3.out.go blq).all 0 16)
 clear hKc Kc
 refine nw ?_
 refine OrdL.st 3 fun Kc hKc=>?_
 refine nv ?_
 go_simp
 refine(c_FCmp' (P:=Gp P w.heap.size 3) (K:=35) (HL.out.below blq) (HM.out.below blq) (by omega) (gap_fresh HP.out blq arq) HS.out).mono ?_
 rintro e w4 ⟨rfl,hb4⟩
 have HF4:=fgo w4 HF3
 have hz4:=HF4.out.1
 have hl4_0:w.heap.size<w4.heap.size:=(by omega)
 have hl4_1:w.heap.size+1<w4.heap.size:=(by omega)
 have hl4_2:w.heap.size+1+1<w4.heap.size:=(by omega)
 have hx4_0:w1.heap.size<w4.heap.size:=(by omega)
 obtain⟨_,_,_,_,_,_,_,_,_,_,_,_,_,_,_,_,-⟩:=HF4.out.alls 0 16
 obtain⟨_,_,_,_,-⟩:=HF4.out.falls 12 4
 go_wp2_with fail
 refine hKc.out _ _ ?_ (fun hHeld=>?_)
 focus ((try dsimp only);exact(HF4.out.go blq).all 0 16)
 clear hKc Kc
 refine nw ?_
 refine OrdL.tk 4 (some 18) ?_
 refine nw ?_
 refine OrdL.tk 5 (some 13) ?_
 refine nw ?_
 refine OrdL.done (by kernel_rfl) ?_ _
 go_wp2_with fail
 refine(c_FOf (P:=Gp P w.heap.size 3) 1 (by omega) (by omega) (gap_fresh HP.out blq arq)).mono ?_
 rintro e w5 ⟨one,rfl,ho,hb5⟩
 have HF5:=fgo w5 HF4
 have hz5:=HF5.out.1
 have hl5_0:w.heap.size<w5.heap.size:=(by omega)
 have hl5_1:w.heap.size+1<w5.heap.size:=(by omega)
 have hl5_2:w.heap.size+1+1<w5.heap.size:=(by omega)
 have hx5_0:w1.heap.size<w5.heap.size:=(by omega)
 obtain⟨_,_,_,_,_,_,_,_,_,_,_,_,_,_,_,_,-⟩:=HF5.out.alls 0 16
 obtain⟨_,_,_,_,-⟩:=HF5.out.falls 12 4
 have HO:=Lib.hid (show IsF (Gp P w.heap.size 3) 3 _ one 1 from ho)
 clear ho
 have HFb5:=Lib.hid (HF5.out.new4 (.bool one.num.b) (.slice one.num.A one.num.n one.num.c) (.bool one.den.b) (.slice one.den.A one.den.n one.den.c) 52)
 go_wp2_with fail
 refine OrdL.begin_ (S:=fun W=>W.cell? ⟨w5.heap.size,0,none⟩=some (.bool one.num.b)∧W.cell? ⟨w5.heap.size,1,none⟩=some (.slice one.num.A one.num.n one.num.c)∧W.cell? ⟨w5.heap.size,2,none⟩=some (.bool one.den.b)∧W.cell? ⟨w5.heap.size,3,none⟩=some (.slice one.den.A one.den.n one.den.c)∧W.cell? ⟨w1.heap.size,0,none⟩=some (.bool l.num.b)∧W.cell? ⟨w1.heap.size,1,none⟩=some (.slice l.num.A l.num.n l.num.c)∧W.cell? ⟨w1.heap.size,2,none⟩=some (.bool l.den.b)∧W.cell? ⟨w1.heap.size,3,none⟩=some (.slice l.den.A l.den.n l.den.c)∧W.cell? ⟨w.heap.size,0,none⟩=some (.bool x.num.b)∧W.cell? ⟨w.heap.size,1,none⟩=some (.slice x.num.A x.num.n x.num.c)∧W.cell? ⟨w.heap.size,2,none⟩=some (.bool x.den.b)∧W.cell? ⟨w.heap.size,3,none⟩=some (.slice x.den.A x.den.n x.den.c)∧W.cell? ⟨w.heap.size+1,0,none⟩=some (.bool y.num.b)∧W.cell? ⟨w.heap.size+1,1,none⟩=some (.slice y.num.A y.num.n y.num.c)∧W.cell? ⟨w.heap.size+1,2,none⟩=some (.bool y.den.b)∧W.cell? ⟨w.heap.size+1,3,none⟩=some (.slice y.den.A y.den.n y.den.c)∧W.cell? ⟨w.heap.size+1+1,0,none⟩=some (.bool false)∧W.cell? ⟨w.heap.size+1+1,1,none⟩=some (.slice none 0 0)∧W.cell? ⟨w.heap.size+1+1,2,none⟩=some (.bool false)∧W.cell? ⟨w.heap.size+1+1,3,none⟩=some (.slice none 0 0)) [] [15] (by kernel_rfl) ?_ (fun hHeld=>?_)
 focus ((try dsimp only);exact(HFb5.out.go blq).all 0 20)
 refine OrdL.tk 0 (some 23) ?_
 refine nw ?_
 refine OrdL.tk 1 (some 24) ?_
 refine nw ?_
 refine OrdL.tk 2 (some 25) ?_
 refine nw ?_
 refine OrdL.tk 3 (some 26) ?_
 refine nw ?_
 refine OrdL.tk 4 (some 27) ?_
 refine nw ?_
 refine OrdL.tk 7 (some 30) ?_
 refine nw ?_
 refine OrdL.tk 8 (some 31) ?_
 refine nw ?_
 refine OrdL.tk 9 (some 32) ?_
 refine nw ?_
 refine OrdL.st 5 fun Kc hKc=>?_
 refine nv ?_
 go_simp
 refine(c_FSub (P:=Gp P w.heap.size 3) (K:=35) ((HY.out.wide (by omega)).below blq) (HL.out.below blq) (by omega) (gap_fresh HP.out blq arq)).mono ?_
 rintro e w6 ⟨d1,rfl,hd1,hb6⟩
 have HD1:=Lib.hid hd1;clear hd1
 have HF6:=fgo w6 HFb5
 have hz6:=HF6.out.1
 have hl6_0:w.heap.size<w6.heap.size:=(by omega)
 have hl6_1:w.heap.size+1<w6.heap.size:=(by omega)
 have hl6_2:w.heap.size+1+1<w6.heap.size:=(by omega)
 have hx6_0:w1.heap.size<w6.heap.size:=(by omega)
 have hx6_1:w5.heap.size<w6.heap.size:=(by omega)
 obtain⟨_,_,_,_,_,_,_,_,_,_,_,_,_,_,_,_,_,_,_,_,-⟩:=HF6.out.alls 0 20
 obtain⟨_,_,_,_,-⟩:=HF6.out.falls 16 4
 go_wp2_with fail
 refine hKc.out _ _ ?_ (fun hHeld=>?_)
 focus ((try dsimp only);exact(HF6.out.go blq).all 0 20)
 clear hKc Kc
 refine nw ?_
 refine OrdL.st 6 fun Kc hKc=>?_
 refine nv ?_
 go_simp
 refine(c_FDiv (P:=Gp P w.heap.size 3) (K:=72) ((HO.out.wide (by omega)).below blq) (HD1.out.below blq) HNZ1.out (by omega) (gap_fresh HP.out blq arq)).mono ?_
 rintro e w7 ⟨e1,rfl,he1,hb7⟩
 have HF7:=fgo w7 HF6
 have hz7:=HF7.out.1
 have hl7_0:w.heap.size<w7.heap.size:=(by omega)
 have hl7_1:w.heap.size+1<w7.heap.size:=(by omega)
 have hl7_2:w.heap.size+1+1<w7.heap.size:=(by omega)
 have hx7_0:w1.heap.size<w7.heap.size:=(by omega)
 have hx7_1:w5.heap.size<w7.heap.size:=(by omega)
 obtain⟨_,_,_,_,_,_,_,_,_,_,_,_,_,_,_,_,_,_,_,_,-⟩:=HF7.out.alls 0 20
 obtain⟨_,_,_,_,-⟩:=HF7.out.falls 16 4
 have HE1:=Lib.hid (IsF.tight he1 HT1.out.1 HT1.out.2)
 clear he1
 go_wp2_with fail
 refine hKc.out _ _ ?_ (fun hHeld=>?_)
 focus ((try dsimp only);exact(HF7.out.go blq).all 0 20)
 clear hKc Kc
 refine nw ?_
 refine OrdL.st 10 fun Kc hKc=>?_
 refine nv ?_
 go_simp
 refine(c_FSub (P:=Gp P w.heap.size 3) (K:=35) ((HX.out.wide (by omega)).below blq) (HL.out.below blq) (by omega) (gap_fresh HP.out blq arq)).mono ?_
 rintro e w8 ⟨d2,rfl,hd2,hb8⟩
 have HD2:=Lib.hid hd2;clear hd2
 have HF8:=fgo w8 HF7
 have hz8:=HF8.out.1
 have hl8_0:w.heap.size<w8.heap.size:=(by omega)
 have hl8_1:w.heap.size+1<w8.heap.size:=(by omega)
 have hl8_2:w.heap.size+1+1<w8.heap.size:=(by omega)
 have hx8_0:w1.heap.size<w8.heap.size:=(by omega)
 have hx8_1:w5.heap.size<w8.heap.size:=(by omega)
 obtain⟨_,_,_,_,_,_,_,_,_,_,_,_,_,_,_,_,_,_,_,_,-⟩:=HF8.out.alls 0 20
 obtain⟨_,_,_,_,-⟩:=HF8.out.falls 16 4
 go_wp2_with fail
 refine hKc.out _ _ ?_ (fun hHeld=>?_)
 focus ((try dsimp only);exact(HF8.out.go blq).all 0 20)
 clear hKc Kc
 refine nw ?_
 refine OrdL.st 11 fun Kc hKc=>?_
 refine nv ?_
 go_simp
 refine(c_FDiv (P:=Gp P w.heap.size 3) (K:=72) ((HO.out.wide (by omega)).below blq) (HD2.out.below blq) HNZ2.out (by omega) (gap_fresh HP.out blq arq)).mono ?_
 rintro e w9 ⟨e2,rfl,he2,hb9⟩
 have HF9:=fgo w9 HF8
 have hz9:=HF9.out.1
 have hl9_0:w.heap.size<w9.heap.size:=(by omega)
 have hl9_1:w.heap.size+1<w9.heap.size:=(by omega)
 have hl9_2:w.heap.size+1+1<w9.heap.size:=(by omega)
 have hx9_0:w1.heap.size<w9.heap.size:=(by omega)
 have hx9_1:w5.heap.size<w9.heap.size:=(by omega)
 obtain⟨_,_,_,_,_,_,_,_,_,_,_,_,_,_,_,_,_,_,_,_,-⟩:=HF9.out.alls 0 20
 obtain⟨_,_,_,_,-⟩:=HF9.out.falls 16 4
 have HE2:=Lib.hid (IsF.tight he2 HT2.out.1 HT2.out.2)
 clear he2
 go_wp2_with fail
 refine hKc.out _ _ ?_ (fun hHeld=>?_)
 focus ((try dsimp only);exact(HF9.out.go blq).all 0 20)
 clear hKc Kc
 refine nw ?_
 refine OrdL.st 12 fun Kc hKc=>?_
 refine nv ?_
 go_simp
 refine(HIH.out (Gp P w.heap.size 3) _ e1 e2 _ _ (HE1.out.below blq) (HE2.out.below blq) HR1.out HR2.out HR3.out (gap_fresh HP.out blq arq)).mono ?_
 rintro e w10 ⟨g,rfl,hg,hb10⟩
 have HG:=Lib.hid hg;clear hg
 have HF10:=fgo w10 HF9
 have hz10:=HF10.out.1
 have hl10_0:w.heap.size<w10.heap.size:=(by omega)
 have hl10_1:w.heap.size+1<w10.heap.size:=(by omega)
 have hl10_2:w.heap.size+1+1<w10.heap.size:=(by omega)
 have hx10_0:w1.heap.size<w10.heap.size:=(by omega)
 have hx10_1:w5.heap.size<w10.heap.size:=(by omega)
 obtain⟨_,_,_,_,_,_,_,_,_,_,_,_,_,_,_,_,_,_,_,_,-⟩:=HF10.out.alls 0 20
 obtain⟨_,_,_,_,-⟩:=HF10.out.falls 16 4
 go_wp2_with fail
 refine hKc.out _ _ ?_ (fun hHeld=>?_)
 focus ((try dsimp only);exact(HF10.out.go blq).all 0 20)
 clear hKc Kc
 refine nw ?_
 refine OrdL.st 13 fun Kc hKc=>?_
 refine nv ?_
 go_simp
 refine(c_FDiv (P:=Gp P w.heap.size 3) (K:=34) ((HO.out.wide (by omega)).below blq) (HG.out.below blq) HNZ3.out (by omega) (gap_fresh HP.out blq arq)).mono ?_
 rintro e w11 ⟨v,rfl,hv,hb11⟩
 have HV:=Lib.hid hv;clear hv
 have HF11:=fgo w11 HF10
 have hz11:=HF11.out.1
 have hl11_0:w.heap.size<w11.heap.size:=(by omega)
 have hl11_1:w.heap.size+1<w11.heap.size:=(by omega)
 have hl11_2:w.heap.size+1+1<w11.heap.size:=(by omega)
 have hx11_0:w1.heap.size<w11.heap.size:=(by omega)
 have hx11_1:w5.heap.size<w11.heap.size:=(by omega)
 obtain⟨_,_,_,_,_,_,_,_,_,_,_,_,_,_,_,_,_,_,_,_,-⟩:=HF11.out.alls 0 20
 obtain⟨_,_,_,_,-⟩:=HF11.out.falls 16 4
 go_wp2_with fail
 refine hKc.out _ _ ?_ (fun hHeld=>?_)
 focus ((try dsimp only);exact(HF11.out.go blq).all 0 20)
 clear hKc Kc
 refine nw ?_
 refine OrdL.st 14 fun Kc hKc=>?_
 refine nv ?_
 go_simp
 refine(c_FAdd (P:=Gp P w.heap.size 3) (K:=34+34+1) ((HL.out.wide (by omega)).below blq) (HV.out.below blq) (by omega) (gap_fresh HP.out blq arq)).mono ?_
 rintro e w12 ⟨r,rfl,hr,hb12⟩
 have HR:=Lib.hid hr;clear hr
 have HF12:=fgo w12 HF11
 have hz12:=HF12.out.1
 have hl12_0:w.heap.size<w12.heap.size:=(by omega)
 have hl12_1:w.heap.size+1<w12.heap.size:=(by omega)
 have hl12_2:w.heap.size+1+1<w12.heap.size:=(by omega)
 have hx12_0:w1.heap.size<w12.heap.size:=(by omega)
 have hx12_1:w5.heap.size<w12.heap.size:=(by omega)
 obtain⟨_,_,_,_,_,_,_,_,_,_,_,_,_,_,_,_,q12_16,q12_17,q12_18,q12_19,-⟩:=HF12.out.alls 0 20
 obtain⟨_,_,_,_,-⟩:=HF12.out.falls 16 4
 go_wp2_with fail
 refine hKc.out _ _ ?_ (fun hHeld=>?_)
 focus ((try dsimp only);exact(HF12.out.go blq).all 0 20)
 clear hKc Kc
 refine nw ?_
 refine OrdL.last (i:=15) rfl (by decide) (by decide) (by kernel_rfl) (fun Kc hKc=>?_)
 refine nv ?_
 go_simp
 refine hKc.out _ _ ?_
 clear hKc Kc
 refine nw ?_
 refine OrdL.done (by kernel_rfl) ?_ _
 have HRT:=Lib.hid (show IsF (Gp P w.heap.size 3) 34 _ r (simpF (n+1) q p)from (by rw [HE.out];exact IsF.tight HR.out (by have:=HBD.out.1;rw [HE.out]at this;exact Nat.lt_of_le_of_lt this HYT.out.1) (by have:=HBD.out.2;rw [HE.out]at this;exact Nat.lt_of_le_of_lt this HYT.out.2)))
 go_wp2_with fail
 refine bodyPost_ret (v:=.agg #[.bool r.num.b,.slice r.num.A r.num.n r.num.c,.bool r.den.b,.slice r.den.A r.den.n r.den.c]) (by simp [results,Tryz.results49,go_sem,q12_16,q12_17,q12_18,q12_19]) rfl ⟨r,rfl,IsF.ungap (s:=w.heap.size) (n:=3) ?_,blq⟩
 · exact(((HRT.out.put _ arq arq).put _ arq arq).put _ arq arq).put _ arq arq
theorem c_simplest:∀n,SimpSaid n:=by
 intro n
 induction n with
 | zero=>intro P w x y q p _ _ _ _ h;have:=q.den_nz;omega
 | succ n ih =>
  intro P w x y q p hx hy hq hp hn hP;by_cases hi:q.den=1
  · exact simplest_i n P w x y q p hx hy hq hp hn hP hi
  · by_cases hf:q.floor<p.floor
    · exact simplest_b n P w x y q p hx hy hq hp hn hP hi hf
    · exact simplest_s n P w x y q p hx hy hq hp hn hP hi hf ih
theorem c_rSimplest_n(a b:ByteArray)(ha:a.size≤140737488351232)(hb:b.size≤140737488351232)(hq:numB a=none∨numB b=none) :
 Calls Tryz.prog 9 #[.string a,.string b] w fun e w'=>e=.returned (.tuple #[.string (rSimplest a b).1,.int .i64 (rSimplest a b).2])∧Below w.heap.size w w':=by
 have HA:=Lib.hid ha
 have HB:=Lib.hid hb
 clear ha hb
 have HQ:=Lib.hid hq
 have HE:=Lib.hid (show rSimplest a b=(nob,1)from by exact hq.elim (fun h=>by rw [rSimplest,h]) (fun h=>by rw [rSimplest,h];cases numB a <;> rfl))
 clear hq
 have HF0:=Lib.hid (show Fr [] (w.heap.size) w from(Fr.nil (by simp)))
 go_enter Tryz.func9,Tryz.ntmps9
 go_wp2_with fail
 refine(c_parsed_no a b HA.out HB.out HQ.out).mono ?_
 rintro e w1 ⟨rfl,hb1⟩
 have HF1:=fgo w1 HF0
 have hz1:=HF1.out.1
 go_wp2_with fail
 go_ret2
 exact⟨by rw [HE.out];rfl,blq⟩
theorem c_rSimplest_a(a b:ByteArray)(ha:a.size≤140737488351232)(hb:b.size≤140737488351232){q p:Rat}(hq:numB a=some q)(hp:numB b=some p)(h0:0<(q-p).num.sign) :
 Calls Tryz.prog 9 #[.string a,.string b] w fun e w'=>e=.returned (.tuple #[.string (rSimplest a b).1,.int .i64 (rSimplest a b).2])∧Below w.heap.size w w':=by
 have HA:=Lib.hid ha
 have HB:=Lib.hid hb
 clear ha hb
 have HQ:=Lib.hid hq
 have HP:=Lib.hid hp
 have HE:=Lib.hid (show rSimplest a b=(nob,3)from by rw [rSimplest,hq,hp];exact if_pos h0)
 obtain⟨s,hs⟩:∃z,z=(q-p).num.sign:=⟨_,rfl⟩
 have HS:=Lib.hid hs.symm
 have hs0:0<s:=by omega
 clear hs h0
 clear hq hp
 have HF0:=Lib.hid (show Fr [] (w.heap.size) w from(Fr.nil (by simp)))
 go_enter Tryz.func9,Tryz.ntmps9
 go_wp2_with fail
 refine(c_parsed_yes a b HA.out HB.out HQ.out HP.out).mono ?_
 rintro e w1 ⟨x,y,g,c,rfl,hfr,hx,hy,hb1⟩
 have HFR:=Lib.hid hfr;clear hfr
 have HX:=Lib.hid hx;clear hx
 have HY:=Lib.hid hy;clear hy
 have HF1:=fgo w1 HF0
 have hz1:=HF1.out.1
 have HFb1:=Lib.hid (show Fr [(g,0,(.bool x.num.b)),(g,1,(.slice x.num.A x.num.n x.num.c)),(g,2,(.bool x.den.b)),(g,3,(.slice x.den.A x.den.n x.den.c)),(g,4,(.bool y.num.b)),(g,5,(.slice y.num.A y.num.n y.num.c)),(g,6,(.bool y.den.b)),(g,7,(.slice y.den.A y.den.n y.den.c))] (g+1) w1 from HFR.out)
 have hg1:g<w1.heap.size:=HFb1.out.1
 obtain⟨_,_,_,_,_,_,_,_,-⟩:=HFb1.out.alls 0 8
 go_wp2_with fail
 refine OrdL.begin_ (S:=fun W=>W.cell? ⟨g,0,none⟩=some (.bool x.num.b)∧W.cell? ⟨g,1,none⟩=some (.slice x.num.A x.num.n x.num.c)∧W.cell? ⟨g,2,none⟩=some (.bool x.den.b)∧W.cell? ⟨g,3,none⟩=some (.slice x.den.A x.den.n x.den.c)∧W.cell? ⟨g,4,none⟩=some (.bool y.num.b)∧W.cell? ⟨g,5,none⟩=some (.slice y.num.A y.num.n y.num.c)∧W.cell? ⟨g,6,none⟩=some (.bool y.den.b)∧W.cell? ⟨g,7,none⟩=some (.slice y.den.A y.den.n y.den.c)) [] [] (by kernel_rfl) ?_ (fun hHeld=>?_)
 focus ((try dsimp only);exact(HFb1.out.go blq).all 0 8)
 refine OrdL.tk 0 (some 19) ?_
 refine nw ?_
 refine OrdL.tk 1 (some 20) ?_
 refine nw ?_
 refine OrdL.tk 2 (some 21) ?_
 refine nw ?_
 refine OrdL.tk 3 (some 22) ?_
 refine nw ?_
 refine OrdL.tk 4 (some 23) ?_
 refine nw ?_
 refine OrdL.tk 5 (some 24) ?_
 refine nw ?_
 refine OrdL.step2 (i:=6) (j:=7) rfl rfl (by decide) (by decide) (by kernel_rfl) (fun Kc hKc=>?_) (fun Kc hKc=>?_)
 · simp only [List.getElem_toArray,List.getElem_cons_zero,List.getElem_cons_succ];go_simp
   refine hKc.out _ _ ?_ (fun hHeld=>?_);focus ((try dsimp only);exact(HFb1.out.go blq).all 0 8)
   clear hKc Kc;refine nw ?_;refine OrdL.st 7 fun Kc hKc=>?_
   refine nv ?_;go_simp
   go_wp2_with fail
   refine hKc.out _ _ ?_ (fun hHeld=>?_);focus ((try dsimp only);exact(HFb1.out.go blq).all 0 8)
   clear hKc Kc;refine nw ?_;refine OrdL.st 8 fun Kc hKc=>?_
   refine nv ?_;go_simp
   go_wp2_with fail
   refine hKc.out _ _ ?_ (fun hHeld=>?_);focus ((try dsimp only);exact(HFb1.out.go blq).all 0 8)
   clear hKc Kc;refine nw ?_;refine OrdL.st 9 fun Kc hKc=>?_
   refine nv ?_;go_simp
   go_wp2_with fail
   refine hKc.out _ _ ?_ (fun hHeld=>?_);focus ((try dsimp only);exact(HFb1.out.go blq).all 0 8)
   clear hKc Kc;refine nw ?_;refine OrdL.done (by kernel_rfl) ?_ _;have HFc:=Lib.hid (show Fr [(w1.heap.size+1,0,(.bool y.num.b)),(w1.heap.size+1,1,(.slice y.num.A y.num.n y.num.c)),(w1.heap.size+1,2,(.bool y.den.b)),(w1.heap.size+1,3,(.slice y.den.A y.den.n y.den.c)),(w1.heap.size,0,(.bool x.num.b)),(w1.heap.size,1,(.slice x.num.A x.num.n x.num.c)),(w1.heap.size,2,(.bool x.den.b)),(w1.heap.size,3,(.slice x.den.A x.den.n x.den.c)),(g,0,(.bool x.num.b)),(g,1,(.slice x.num.A x.num.n x.num.c)),(g,2,(.bool x.den.b)),(g,3,(.slice x.den.A x.den.n x.den.c)),(g,4,(.bool y.num.b)),(g,5,(.slice y.num.A y.num.n y.num.c)),(g,6,(.bool y.den.b)),(g,7,(.slice y.den.A y.den.n y.den.c))] (w1.heap.size+1+1) ((w1.alloc (.cells #[.bool x.num.b,.slice x.num.A x.num.n x.num.c,.bool x.den.b,.slice x.den.A x.den.n x.den.c] 52)).alloc (.cells #[.bool y.num.b,.slice y.num.A y.num.n y.num.c,.bool y.den.b,.slice y.den.A y.den.n y.den.c] 52))from (by have h9:=((HFb1.out.new4 (.bool x.num.b) (.slice x.num.A x.num.n x.num.c) (.bool x.den.b) (.slice x.den.A x.den.n x.den.c) 52).new4 (.bool y.num.b) (.slice y.num.A y.num.n y.num.c) (.bool y.den.b) (.slice y.den.A y.den.n y.den.c) 52);simpa using h9));go_wp2_with fail
   refine(c_FCmp' (P:=fun _=>True) (HX.out.below blq) (HY.out.below blq) (by omega) (fun _ _=>trivial) HS.out).mono ?_;rintro e w2 ⟨rfl,hb2⟩;have HF2:=fgo w2 HFc;have hz2:=HF2.out.1;have hx2_0:g<w2.heap.size:=(by omega);have hx2_1:w1.heap.size<w2.heap.size:=(by omega);have hx2_2:w1.heap.size+1<w2.heap.size:=(by omega);obtain⟨q2_0,q2_1,q2_2,q2_3,q2_4,q2_5,q2_6,q2_7,q2_8,q2_9,q2_10,q2_11,q2_12,q2_13,q2_14,q2_15,-⟩:=HF2.out.alls 0 16;go_wp2_with fail
   go_ret2
   exact⟨by rw [HE.out];rfl,blq⟩
 · simp only [List.getElem_toArray,List.getElem_cons_zero,List.getElem_cons_succ];go_simp
   refine hKc.out _ _ ?_ (fun hHeld=>?_);focus ((try dsimp only);exact(HFb1.out.go blq).all 0 8)
   clear hKc Kc;refine nw ?_;refine OrdL.st 6 fun Kc hKc=>?_
   refine nv ?_;go_simp
   go_wp2_with fail
   refine hKc.out _ _ ?_ (fun hHeld=>?_);focus ((try dsimp only);exact(HFb1.out.go blq).all 0 8)
   clear hKc Kc;refine nw ?_;refine OrdL.st 8 fun Kc hKc=>?_
   refine nv ?_;go_simp
   go_wp2_with fail
   refine hKc.out _ _ ?_ (fun hHeld=>?_);focus ((try dsimp only);exact(HFb1.out.go blq).all 0 8)
   clear hKc Kc;refine nw ?_;refine OrdL.st 9 fun Kc hKc=>?_
   refine nv ?_;go_simp
   go_wp2_with fail
   refine hKc.out _ _ ?_ (fun hHeld=>?_);focus ((try dsimp only);exact(HFb1.out.go blq).all 0 8)
   clear hKc Kc;refine nw ?_;refine OrdL.done (by kernel_rfl) ?_ _;have HFc:=Lib.hid (show Fr [(w1.heap.size+1,0,(.bool x.num.b)),(w1.heap.size+1,1,(.slice x.num.A x.num.n x.num.c)),(w1.heap.size+1,2,(.bool x.den.b)),(w1.heap.size+1,3,(.slice x.den.A x.den.n x.den.c)),(w1.heap.size,0,(.bool y.num.b)),(w1.heap.size,1,(.slice y.num.A y.num.n y.num.c)),(w1.heap.size,2,(.bool y.den.b)),(w1.heap.size,3,(.slice y.den.A y.den.n y.den.c)),(g,0,(.bool x.num.b)),(g,1,(.slice x.num.A x.num.n x.num.c)),(g,2,(.bool x.den.b)),(g,3,(.slice x.den.A x.den.n x.den.c)),(g,4,(.bool y.num.b)),(g,5,(.slice y.num.A y.num.n y.num.c)),(g,6,(.bool y.den.b)),(g,7,(.slice y.den.A y.den.n y.den.c))] (w1.heap.size+1+1) ((w1.alloc (.cells #[.bool y.num.b,.slice y.num.A y.num.n y.num.c,.bool y.den.b,.slice y.den.A y.den.n y.den.c] 52)).alloc (.cells #[.bool x.num.b,.slice x.num.A x.num.n x.num.c,.bool x.den.b,.slice x.den.A x.den.n x.den.c] 52))from (by have h9:=((HFb1.out.new4 (.bool y.num.b) (.slice y.num.A y.num.n y.num.c) (.bool y.den.b) (.slice y.den.A y.den.n y.den.c) 52).new4 (.bool x.num.b) (.slice x.num.A x.num.n x.num.c) (.bool x.den.b) (.slice x.den.A x.den.n x.den.c) 52);simpa using h9));go_wp2_with fail
   refine(c_FCmp' (P:=fun _=>True) (HX.out.below blq) (HY.out.below blq) (by omega) (fun _ _=>trivial) HS.out).mono ?_;rintro e w2 ⟨rfl,hb2⟩;have HF2:=fgo w2 HFc;have hz2:=HF2.out.1;have hx2_0:g<w2.heap.size:=(by omega);have hx2_1:w1.heap.size<w2.heap.size:=(by omega);have hx2_2:w1.heap.size+1<w2.heap.size:=(by omega);obtain⟨q2_0,q2_1,q2_2,q2_3,q2_4,q2_5,q2_6,q2_7,q2_8,q2_9,q2_10,q2_11,q2_12,q2_13,q2_14,q2_15,-⟩:=HF2.out.alls 0 16;go_wp2_with fail
   go_ret2
   exact⟨by rw [HE.out];rfl,blq⟩
theorem c_rSimplest_z(a b:ByteArray)(ha:a.size≤140737488351232)(hb:b.size≤140737488351232){q p:Rat}(hq:numB a=some q)(hp:numB b=some p)(h0:¬0<(q-p).num.sign)(h1:q.num.sign≤0)(h2:0≤p.num.sign) :
 Calls Tryz.prog 9 #[.string a,.string b] w fun e w'=>e=.returned (.tuple #[.string (rSimplest a b).1,.int .i64 (rSimplest a b).2])∧Below w.heap.size w w':=by
 have HA:=Lib.hid ha
 have HB:=Lib.hid hb
 clear ha hb
 have HQ:=Lib.hid hq
 have HP:=Lib.hid hp
 have HE:=Lib.hid (show rSimplest a b=(⟨#[48]⟩,0)from by rw [rSimplest,hq,hp];exact(if_neg h0).trans (if_pos ⟨h1,h2⟩))
 obtain⟨s,hs⟩:∃z,z=(q-p).num.sign:=⟨_,rfl⟩
 have HS:=Lib.hid hs.symm
 obtain⟨sx,hsx⟩:∃z,z=q.num.sign:=⟨_,rfl⟩
 have HSX:=Lib.hid hsx.symm
 obtain⟨sy,hsy⟩:∃z,z=p.num.sign:=⟨_,rfl⟩
 have HSY:=Lib.hid hsy.symm
 have hs0:s≤0:=by omega
 have hs1:sx≤0:=by omega
 have hs2:0≤sy:=by omega
 clear hs hsx hsy h0 h1 h2
 clear hq hp
 have HF0:=Lib.hid (show Fr [] (w.heap.size) w from(Fr.nil (by simp)))
 go_enter Tryz.func9,Tryz.ntmps9
 go_wp2_with fail
 refine(c_parsed_yes a b HA.out HB.out HQ.out HP.out).mono ?_
 rintro e w1 ⟨x,y,g,c,rfl,hfr,hx,hy,hb1⟩
 have HFR:=Lib.hid hfr;clear hfr
 have HX:=Lib.hid hx;clear hx
 have HY:=Lib.hid hy;clear hy
 have HF1:=fgo w1 HF0
 have hz1:=HF1.out.1
 have HFb1:=Lib.hid (show Fr [(g,0,(.bool x.num.b)),(g,1,(.slice x.num.A x.num.n x.num.c)),(g,2,(.bool x.den.b)),(g,3,(.slice x.den.A x.den.n x.den.c)),(g,4,(.bool y.num.b)),(g,5,(.slice y.num.A y.num.n y.num.c)),(g,6,(.bool y.den.b)),(g,7,(.slice y.den.A y.den.n y.den.c))] (g+1) w1 from HFR.out)
 have hg1:g<w1.heap.size:=HFb1.out.1
 obtain⟨_,_,_,_,_,_,_,_,-⟩:=HFb1.out.alls 0 8
 go_wp2_with fail
 refine OrdL.begin_ (S:=fun W=>W.cell? ⟨g,0,none⟩=some (.bool x.num.b)∧W.cell? ⟨g,1,none⟩=some (.slice x.num.A x.num.n x.num.c)∧W.cell? ⟨g,2,none⟩=some (.bool x.den.b)∧W.cell? ⟨g,3,none⟩=some (.slice x.den.A x.den.n x.den.c)∧W.cell? ⟨g,4,none⟩=some (.bool y.num.b)∧W.cell? ⟨g,5,none⟩=some (.slice y.num.A y.num.n y.num.c)∧W.cell? ⟨g,6,none⟩=some (.bool y.den.b)∧W.cell? ⟨g,7,none⟩=some (.slice y.den.A y.den.n y.den.c)) [] [] (by kernel_rfl) ?_ (fun hHeld=>?_)
 focus ((try dsimp only);exact(HFb1.out.go blq).all 0 8)
 refine OrdL.tk 0 (some 19) ?_
 refine nw ?_
 refine OrdL.tk 1 (some 20) ?_
 refine nw ?_
 refine OrdL.tk 2 (some 21) ?_
 refine nw ?_
 refine OrdL.tk 3 (some 22) ?_
 refine nw ?_
 refine OrdL.tk 4 (some 23) ?_
 refine nw ?_
 refine OrdL.tk 5 (some 24) ?_
 refine nw ?_
 refine OrdL.step2 (i:=6) (j:=7) rfl rfl (by decide) (by decide) (by kernel_rfl) (fun Kc hKc=>?_) (fun Kc hKc=>?_)
 · simp only [List.getElem_toArray,List.getElem_cons_zero,List.getElem_cons_succ];go_simp
   refine hKc.out _ _ ?_ (fun hHeld=>?_);focus ((try dsimp only);exact(HFb1.out.go blq).all 0 8)
   clear hKc Kc;refine nw ?_;refine OrdL.st 7 fun Kc hKc=>?_
   refine nv ?_;go_simp
   go_wp2_with fail
   refine hKc.out _ _ ?_ (fun hHeld=>?_);focus ((try dsimp only);exact(HFb1.out.go blq).all 0 8)
   clear hKc Kc;refine nw ?_;refine OrdL.st 8 fun Kc hKc=>?_
   refine nv ?_;go_simp
   go_wp2_with fail
   refine hKc.out _ _ ?_ (fun hHeld=>?_);focus ((try dsimp only);exact(HFb1.out.go blq).all 0 8)
   clear hKc Kc;refine nw ?_;refine OrdL.st 9 fun Kc hKc=>?_
   refine nv ?_;go_simp
   go_wp2_with fail
   refine hKc.out _ _ ?_ (fun hHeld=>?_);focus ((try dsimp only);exact(HFb1.out.go blq).all 0 8)
   clear hKc Kc;refine nw ?_;refine OrdL.done (by kernel_rfl) ?_ _;have HFc:=Lib.hid (show Fr [(w1.heap.size+1,0,(.bool y.num.b)),(w1.heap.size+1,1,(.slice y.num.A y.num.n y.num.c)),(w1.heap.size+1,2,(.bool y.den.b)),(w1.heap.size+1,3,(.slice y.den.A y.den.n y.den.c)),(w1.heap.size,0,(.bool x.num.b)),(w1.heap.size,1,(.slice x.num.A x.num.n x.num.c)),(w1.heap.size,2,(.bool x.den.b)),(w1.heap.size,3,(.slice x.den.A x.den.n x.den.c)),(g,0,(.bool x.num.b)),(g,1,(.slice x.num.A x.num.n x.num.c)),(g,2,(.bool x.den.b)),(g,3,(.slice x.den.A x.den.n x.den.c)),(g,4,(.bool y.num.b)),(g,5,(.slice y.num.A y.num.n y.num.c)),(g,6,(.bool y.den.b)),(g,7,(.slice y.den.A y.den.n y.den.c))] (w1.heap.size+1+1) ((w1.alloc (.cells #[.bool x.num.b,.slice x.num.A x.num.n x.num.c,.bool x.den.b,.slice x.den.A x.den.n x.den.c] 52)).alloc (.cells #[.bool y.num.b,.slice y.num.A y.num.n y.num.c,.bool y.den.b,.slice y.den.A y.den.n y.den.c] 52))from (by have h9:=((HFb1.out.new4 (.bool x.num.b) (.slice x.num.A x.num.n x.num.c) (.bool x.den.b) (.slice x.den.A x.den.n x.den.c) 52).new4 (.bool y.num.b) (.slice y.num.A y.num.n y.num.c) (.bool y.den.b) (.slice y.den.A y.den.n y.den.c) 52);simpa using h9));go_wp2_with fail
   refine(c_FCmp' (P:=fun _=>True) (HX.out.below blq) (HY.out.below blq) (by omega) (fun _ _=>trivial) HS.out).mono ?_;rintro e w2 ⟨rfl,hb2⟩;have HF2:=fgo w2 HFc;have hz2:=HF2.out.1;have hx2_0:g<w2.heap.size:=(by omega);have hx2_1:w1.heap.size<w2.heap.size:=(by omega);have hx2_2:w1.heap.size+1<w2.heap.size:=(by omega);obtain⟨q2_0,q2_1,q2_2,q2_3,q2_4,q2_5,q2_6,q2_7,q2_8,q2_9,q2_10,q2_11,q2_12,q2_13,q2_14,q2_15,-⟩:=HF2.out.alls 0 16;go_wp2_with fail
   refine(c_FSign' (HX.out.below blq) HSX.out).mono ?_;rintro e w3 ⟨rfl,hb3⟩;have HF3:=fgo w3 HF2;have hz3:=HF3.out.1;have hx3_0:g<w3.heap.size:=(by omega);have hx3_1:w1.heap.size<w3.heap.size:=(by omega);have hx3_2:w1.heap.size+1<w3.heap.size:=(by omega);obtain⟨q3_0,q3_1,q3_2,q3_3,q3_4,q3_5,q3_6,q3_7,q3_8,q3_9,q3_10,q3_11,q3_12,q3_13,q3_14,q3_15,-⟩:=HF3.out.alls 0 16;go_wp2_with fail
   refine(c_FSign' (HY.out.below blq) HSY.out).mono ?_;rintro e w4 ⟨rfl,hb4⟩;have HF4:=fgo w4 HF3;have hz4:=HF4.out.1;have hx4_0:g<w4.heap.size:=(by omega);have hx4_1:w1.heap.size<w4.heap.size:=(by omega);have hx4_2:w1.heap.size+1<w4.heap.size:=(by omega);obtain⟨q4_0,q4_1,q4_2,q4_3,q4_4,q4_5,q4_6,q4_7,q4_8,q4_9,q4_10,q4_11,q4_12,q4_13,q4_14,q4_15,-⟩:=HF4.out.alls 0 16;go_wp2_with fail
   go_ret2
   exact⟨by rw [HE.out];rfl,blq⟩
 · simp only [List.getElem_toArray,List.getElem_cons_zero,List.getElem_cons_succ];go_simp
   refine hKc.out _ _ ?_ (fun hHeld=>?_);focus ((try dsimp only);exact(HFb1.out.go blq).all 0 8)
   clear hKc Kc;refine nw ?_;refine OrdL.st 6 fun Kc hKc=>?_
   refine nv ?_;go_simp
   go_wp2_with fail
   refine hKc.out _ _ ?_ (fun hHeld=>?_);focus ((try dsimp only);exact(HFb1.out.go blq).all 0 8)
   clear hKc Kc;refine nw ?_;refine OrdL.st 8 fun Kc hKc=>?_
   refine nv ?_;go_simp
   go_wp2_with fail
   refine hKc.out _ _ ?_ (fun hHeld=>?_);focus ((try dsimp only);exact(HFb1.out.go blq).all 0 8)
   clear hKc Kc;refine nw ?_;refine OrdL.st 9 fun Kc hKc=>?_
   refine nv ?_;go_simp
   go_wp2_with fail
   refine hKc.out _ _ ?_ (fun hHeld=>?_);focus ((try dsimp only);exact(HFb1.out.go blq).all 0 8)
   clear hKc Kc;refine nw ?_;refine OrdL.done (by kernel_rfl) ?_ _;have HFc:=Lib.hid (show Fr [(w1.heap.size+1,0,(.bool x.num.b)),(w1.heap.size+1,1,(.slice x.num.A x.num.n x.num.c)),(w1.heap.size+1,2,(.bool x.den.b)),(w1.heap.size+1,3,(.slice x.den.A x.den.n x.den.c)),(w1.heap.size,0,(.bool y.num.b)),(w1.heap.size,1,(.slice y.num.A y.num.n y.num.c)),(w1.heap.size,2,(.bool y.den.b)),(w1.heap.size,3,(.slice y.den.A y.den.n y.den.c)),(g,0,(.bool x.num.b)),(g,1,(.slice x.num.A x.num.n x.num.c)),(g,2,(.bool x.den.b)),(g,3,(.slice x.den.A x.den.n x.den.c)),(g,4,(.bool y.num.b)),(g,5,(.slice y.num.A y.num.n y.num.c)),(g,6,(.bool y.den.b)),(g,7,(.slice y.den.A y.den.n y.den.c))] (w1.heap.size+1+1) ((w1.alloc (.cells #[.bool y.num.b,.slice y.num.A y.num.n y.num.c,.bool y.den.b,.slice y.den.A y.den.n y.den.c] 52)).alloc (.cells #[.bool x.num.b,.slice x.num.A x.num.n x.num.c,.bool x.den.b,.slice x.den.A x.den.n x.den.c] 52))from (by have h9:=((HFb1.out.new4 (.bool y.num.b) (.slice y.num.A y.num.n y.num.c) (.bool y.den.b) (.slice y.den.A y.den.n y.den.c) 52).new4 (.bool x.num.b) (.slice x.num.A x.num.n x.num.c) (.bool x.den.b) (.slice x.den.A x.den.n x.den.c) 52);simpa using h9));go_wp2_with fail
   refine(c_FCmp' (P:=fun _=>True) (HX.out.below blq) (HY.out.below blq) (by omega) (fun _ _=>trivial) HS.out).mono ?_;rintro e w2 ⟨rfl,hb2⟩;have HF2:=fgo w2 HFc;have hz2:=HF2.out.1;have hx2_0:g<w2.heap.size:=(by omega);have hx2_1:w1.heap.size<w2.heap.size:=(by omega);have hx2_2:w1.heap.size+1<w2.heap.size:=(by omega);obtain⟨q2_0,q2_1,q2_2,q2_3,q2_4,q2_5,q2_6,q2_7,q2_8,q2_9,q2_10,q2_11,q2_12,q2_13,q2_14,q2_15,-⟩:=HF2.out.alls 0 16;go_wp2_with fail
   refine(c_FSign' (HX.out.below blq) HSX.out).mono ?_;rintro e w3 ⟨rfl,hb3⟩;have HF3:=fgo w3 HF2;have hz3:=HF3.out.1;have hx3_0:g<w3.heap.size:=(by omega);have hx3_1:w1.heap.size<w3.heap.size:=(by omega);have hx3_2:w1.heap.size+1<w3.heap.size:=(by omega);obtain⟨q3_0,q3_1,q3_2,q3_3,q3_4,q3_5,q3_6,q3_7,q3_8,q3_9,q3_10,q3_11,q3_12,q3_13,q3_14,q3_15,-⟩:=HF3.out.alls 0 16;go_wp2_with fail
   refine(c_FSign' (HY.out.below blq) HSY.out).mono ?_;rintro e w4 ⟨rfl,hb4⟩;have HF4:=fgo w4 HF3;have hz4:=HF4.out.1;have hx4_0:g<w4.heap.size:=(by omega);have hx4_1:w1.heap.size<w4.heap.size:=(by omega);have hx4_2:w1.heap.size+1<w4.heap.size:=(by omega);obtain⟨q4_0,q4_1,q4_2,q4_3,q4_4,q4_5,q4_6,q4_7,q4_8,q4_9,q4_10,q4_11,q4_12,q4_13,q4_14,q4_15,-⟩:=HF4.out.alls 0 16;go_wp2_with fail
   go_ret2
   exact⟨by rw [HE.out];rfl,blq⟩
theorem c_rSimplest_m(a b:ByteArray)(ha:a.size≤140737488351232)(hb:b.size≤140737488351232){q p:Rat}(hq:numB a=some q)(hp:numB b=some p)(h0:¬0<(q-p).num.sign)(h2:p.num.sign<0)(h3:q≤p)(h4:p<0) :
 Calls Tryz.prog 9 #[.string a,.string b] w fun e w'=>e=.returned (.tuple #[.string (rSimplest a b).1,.int .i64 (rSimplest a b).2])∧Below w.heap.size w w':=by
 have HA:=Lib.hid ha
 have HB:=Lib.hid hb
 clear ha hb
 have HQ:=Lib.hid hq
 have HP:=Lib.hid hp
 have HE:=Lib.hid (show rSimplest a b=tellB (-simpQ (-p) (-q))from by rw [rSimplest,hq,hp];exact(if_neg h0).trans ((if_neg (fun h=>by omega)).trans (if_pos h2)))
 obtain⟨s,hs⟩:∃z,z=(q-p).num.sign:=⟨_,rfl⟩
 have HS:=Lib.hid hs.symm
 obtain⟨sx,hsx⟩:∃z,z=q.num.sign:=⟨_,rfl⟩
 have HSX:=Lib.hid hsx.symm
 obtain⟨sy,hsy⟩:∃z,z=p.num.sign:=⟨_,rfl⟩
 have HSY:=Lib.hid hsy.symm
 have hs0:s≤0:=by omega
 have hs1:sx≤0:=by rw [hsx];exact sign_np (by grind)
 have hs2:sy<0:=by omega
 have HR1:=Lib.hid (show 0< -p from by grind)
 have HR2:=Lib.hid (show -p≤ -q from by grind)
 clear hs hsx hsy h0 h2 h3 h4
 clear hq hp
 have HF0:=Lib.hid (show Fr [] (w.heap.size) w from(Fr.nil (by simp)))
 go_enter Tryz.func9,Tryz.ntmps9
 go_wp2_with fail
 refine(c_parsed_yes a b HA.out HB.out HQ.out HP.out).mono ?_
 rintro e w1 ⟨x,y,g,c,rfl,hfr,hx,hy,hb1⟩
 have HFR:=Lib.hid hfr;clear hfr
 have HX:=Lib.hid hx;clear hx
 have HY:=Lib.hid hy;clear hy
 have HF1:=fgo w1 HF0
 have hz1:=HF1.out.1
 have HFb1:=Lib.hid (show Fr [(g,0,(.bool x.num.b)),(g,1,(.slice x.num.A x.num.n x.num.c)),(g,2,(.bool x.den.b)),(g,3,(.slice x.den.A x.den.n x.den.c)),(g,4,(.bool y.num.b)),(g,5,(.slice y.num.A y.num.n y.num.c)),(g,6,(.bool y.den.b)),(g,7,(.slice y.den.A y.den.n y.den.c))] (g+1) w1 from HFR.out)
 have hg1:g<w1.heap.size:=HFb1.out.1
 obtain⟨_,_,_,_,_,_,_,_,-⟩:=HFb1.out.alls 0 8
 go_wp2_with fail
 refine OrdL.begin_ (S:=fun W=>W.cell? ⟨g,0,none⟩=some (.bool x.num.b)∧W.cell? ⟨g,1,none⟩=some (.slice x.num.A x.num.n x.num.c)∧W.cell? ⟨g,2,none⟩=some (.bool x.den.b)∧W.cell? ⟨g,3,none⟩=some (.slice x.den.A x.den.n x.den.c)∧W.cell? ⟨g,4,none⟩=some (.bool y.num.b)∧W.cell? ⟨g,5,none⟩=some (.slice y.num.A y.num.n y.num.c)∧W.cell? ⟨g,6,none⟩=some (.bool y.den.b)∧W.cell? ⟨g,7,none⟩=some (.slice y.den.A y.den.n y.den.c)) [] [] (by kernel_rfl) ?_ (fun hHeld=>?_)
 focus ((try dsimp only);exact(HFb1.out.go blq).all 0 8)
 refine OrdL.tk 0 (some 19) ?_
 refine nw ?_
 refine OrdL.tk 1 (some 20) ?_
 refine nw ?_
 refine OrdL.tk 2 (some 21) ?_
 refine nw ?_
 refine OrdL.tk 3 (some 22) ?_
 refine nw ?_
 refine OrdL.tk 4 (some 23) ?_
 refine nw ?_
 refine OrdL.tk 5 (some 24) ?_
 refine nw ?_
 refine OrdL.step2 (i:=6) (j:=7) rfl rfl (by decide) (by decide) (by kernel_rfl) (fun Kc hKc=>?_) (fun Kc hKc=>?_)
 · simp only [List.getElem_toArray,List.getElem_cons_zero,List.getElem_cons_succ];go_simp
   refine hKc.out _ _ ?_ (fun hHeld=>?_);focus ((try dsimp only);exact(HFb1.out.go blq).all 0 8)
   clear hKc Kc;refine nw ?_;refine OrdL.st 7 fun Kc hKc=>?_
   refine nv ?_;go_simp
   go_wp2_with fail
   refine hKc.out _ _ ?_ (fun hHeld=>?_);focus ((try dsimp only);exact(HFb1.out.go blq).all 0 8)
   clear hKc Kc;refine nw ?_;refine OrdL.st 8 fun Kc hKc=>?_
   refine nv ?_;go_simp
   go_wp2_with fail
   refine hKc.out _ _ ?_ (fun hHeld=>?_);focus ((try dsimp only);exact(HFb1.out.go blq).all 0 8)
   clear hKc Kc;refine nw ?_;refine OrdL.st 9 fun Kc hKc=>?_
   refine nv ?_;go_simp
   go_wp2_with fail
   refine hKc.out _ _ ?_ (fun hHeld=>?_);focus ((try dsimp only);exact(HFb1.out.go blq).all 0 8)
   clear hKc Kc;refine nw ?_;refine OrdL.done (by kernel_rfl) ?_ _;have HFc:=Lib.hid (show Fr [(w1.heap.size+1,0,(.bool y.num.b)),(w1.heap.size+1,1,(.slice y.num.A y.num.n y.num.c)),(w1.heap.size+1,2,(.bool y.den.b)),(w1.heap.size+1,3,(.slice y.den.A y.den.n y.den.c)),(w1.heap.size,0,(.bool x.num.b)),(w1.heap.size,1,(.slice x.num.A x.num.n x.num.c)),(w1.heap.size,2,(.bool x.den.b)),(w1.heap.size,3,(.slice x.den.A x.den.n x.den.c)),(g,0,(.bool x.num.b)),(g,1,(.slice x.num.A x.num.n x.num.c)),(g,2,(.bool x.den.b)),(g,3,(.slice x.den.A x.den.n x.den.c)),(g,4,(.bool y.num.b)),(g,5,(.slice y.num.A y.num.n y.num.c)),(g,6,(.bool y.den.b)),(g,7,(.slice y.den.A y.den.n y.den.c))] (w1.heap.size+1+1) ((w1.alloc (.cells #[.bool x.num.b,.slice x.num.A x.num.n x.num.c,.bool x.den.b,.slice x.den.A x.den.n x.den.c] 52)).alloc (.cells #[.bool y.num.b,.slice y.num.A y.num.n y.num.c,.bool y.den.b,.slice y.den.A y.den.n y.den.c] 52))from (by have h9:=((HFb1.out.new4 (.bool x.num.b) (.slice x.num.A x.num.n x.num.c) (.bool x.den.b) (.slice x.den.A x.den.n x.den.c) 52).new4 (.bool y.num.b) (.slice y.num.A y.num.n y.num.c) (.bool y.den.b) (.slice y.den.A y.den.n y.den.c) 52);simpa using h9));go_wp2_with fail
   refine(c_FCmp' (P:=fun _=>True) (HX.out.below blq) (HY.out.below blq) (by omega) (fun _ _=>trivial) HS.out).mono ?_;rintro e w2 ⟨rfl,hb2⟩;have HF2:=fgo w2 HFc;have hz2:=HF2.out.1;have hx2_0:g<w2.heap.size:=(by omega);have hx2_1:w1.heap.size<w2.heap.size:=(by omega);have hx2_2:w1.heap.size+1<w2.heap.size:=(by omega);obtain⟨q2_0,q2_1,q2_2,q2_3,q2_4,q2_5,q2_6,q2_7,q2_8,q2_9,q2_10,q2_11,q2_12,q2_13,q2_14,q2_15,-⟩:=HF2.out.alls 0 16;go_wp2_with fail
   refine(c_FSign' (HX.out.below blq) HSX.out).mono ?_;rintro e w3 ⟨rfl,hb3⟩;have HF3:=fgo w3 HF2;have hz3:=HF3.out.1;have hx3_0:g<w3.heap.size:=(by omega);have hx3_1:w1.heap.size<w3.heap.size:=(by omega);have hx3_2:w1.heap.size+1<w3.heap.size:=(by omega);obtain⟨q3_0,q3_1,q3_2,q3_3,q3_4,q3_5,q3_6,q3_7,q3_8,q3_9,q3_10,q3_11,q3_12,q3_13,q3_14,q3_15,-⟩:=HF3.out.alls 0 16;go_wp2_with fail
   refine(c_FSign' (HY.out.below blq) HSY.out).mono ?_;rintro e w4 ⟨rfl,hb4⟩;have HF4:=fgo w4 HF3;have hz4:=HF4.out.1;have hx4_0:g<w4.heap.size:=(by omega);have hx4_1:w1.heap.size<w4.heap.size:=(by omega);have hx4_2:w1.heap.size+1<w4.heap.size:=(by omega);obtain⟨q4_0,q4_1,q4_2,q4_3,q4_4,q4_5,q4_6,q4_7,q4_8,q4_9,q4_10,q4_11,q4_12,q4_13,q4_14,q4_15,-⟩:=HF4.out.alls 0 16;go_wp2_with fail
   refine(c_FSign' (HY.out.below blq) HSY.out).mono ?_;rintro e w5 ⟨rfl,hb5⟩;have HF5:=fgo w5 HF4;have hz5:=HF5.out.1;have hx5_0:g<w5.heap.size:=(by omega);have hx5_1:w1.heap.size<w5.heap.size:=(by omega);have hx5_2:w1.heap.size+1<w5.heap.size:=(by omega);obtain⟨q5_0,q5_1,q5_2,q5_3,q5_4,q5_5,q5_6,q5_7,q5_8,q5_9,q5_10,q5_11,q5_12,q5_13,q5_14,q5_15,-⟩:=HF5.out.alls 0 16;go_wp2_with fail
   refine OrdL.begin_ (S:=fun W=>W.cell? ⟨w1.heap.size+1,0,none⟩=some (.bool y.num.b)∧W.cell? ⟨w1.heap.size+1,1,none⟩=some (.slice y.num.A y.num.n y.num.c)∧W.cell? ⟨w1.heap.size+1,2,none⟩=some (.bool y.den.b)∧W.cell? ⟨w1.heap.size+1,3,none⟩=some (.slice y.den.A y.den.n y.den.c)∧W.cell? ⟨w1.heap.size,0,none⟩=some (.bool x.num.b)∧W.cell? ⟨w1.heap.size,1,none⟩=some (.slice x.num.A x.num.n x.num.c)∧W.cell? ⟨w1.heap.size,2,none⟩=some (.bool x.den.b)∧W.cell? ⟨w1.heap.size,3,none⟩=some (.slice x.den.A x.den.n x.den.c)∧W.cell? ⟨g,0,none⟩=some (.bool x.num.b)∧W.cell? ⟨g,1,none⟩=some (.slice x.num.A x.num.n x.num.c)∧W.cell? ⟨g,2,none⟩=some (.bool x.den.b)∧W.cell? ⟨g,3,none⟩=some (.slice x.den.A x.den.n x.den.c)∧W.cell? ⟨g,4,none⟩=some (.bool y.num.b)∧W.cell? ⟨g,5,none⟩=some (.slice y.num.A y.num.n y.num.c)∧W.cell? ⟨g,6,none⟩=some (.bool y.den.b)∧W.cell? ⟨g,7,none⟩=some (.slice y.den.A y.den.n y.den.c)) [] [] (by kernel_rfl) ?_ (fun hHeld=>?_);focus ((try dsimp only);exact(HF5.out.go blq).all 0 16)
   refine OrdL.tk 0 (some 43) ?_;refine nw ?_;refine OrdL.tk 2 (some 45) ?_;refine nw ?_;refine OrdL.st 1 fun Kc hKc=>?_
   refine nv ?_;go_simp
   refine(c_FNeg (P:=fun _=>True) (HY.out.below blq) (by omega) (fun _ _=>trivial)).mono ?_;rintro e w6 ⟨ny,rfl,hny,hb6⟩;have HNY:=Lib.hid hny;clear hny;have HF6:=fgo w6 HF5;have hz6:=HF6.out.1;have hx6_0:g<w6.heap.size:=(by omega);have hx6_1:w1.heap.size<w6.heap.size:=(by omega);have hx6_2:w1.heap.size+1<w6.heap.size:=(by omega);obtain⟨q6_0,q6_1,q6_2,q6_3,q6_4,q6_5,q6_6,q6_7,q6_8,q6_9,q6_10,q6_11,q6_12,q6_13,q6_14,q6_15,-⟩:=HF6.out.alls 0 16;go_wp2_with fail
   refine hKc.out _ _ ?_ (fun hHeld=>?_);focus ((try dsimp only);exact(HF6.out.go blq).all 0 16)
   clear hKc Kc;refine nw ?_;refine OrdL.st 3 fun Kc hKc=>?_
   refine nv ?_;go_simp
   refine(c_FNeg (P:=fun _=>True) (HX.out.below blq) (by omega) (fun _ _=>trivial)).mono ?_;rintro e w7 ⟨nx,rfl,hnx,hb7⟩;have HNX:=Lib.hid hnx;clear hnx;have HF7:=fgo w7 HF6;have hz7:=HF7.out.1;have hx7_0:g<w7.heap.size:=(by omega);have hx7_1:w1.heap.size<w7.heap.size:=(by omega);have hx7_2:w1.heap.size+1<w7.heap.size:=(by omega);obtain⟨q7_0,q7_1,q7_2,q7_3,q7_4,q7_5,q7_6,q7_7,q7_8,q7_9,q7_10,q7_11,q7_12,q7_13,q7_14,q7_15,-⟩:=HF7.out.alls 0 16;go_wp2_with fail
   refine hKc.out _ _ ?_ (fun hHeld=>?_);focus ((try dsimp only);exact(HF7.out.go blq).all 0 16)
   clear hKc Kc;refine nw ?_;refine OrdL.st 4 fun Kc hKc=>?_
   refine nv ?_;go_simp
   refine(c_simplest _ (fun _=>True) _ ny nx _ _ (HNY.out.below blq) (HNX.out.below blq) HR1.out HR2.out (Nat.le_refl _) (fun _ _=>trivial)).mono ?_;rintro e w8 ⟨r,rfl,hr,hb8⟩;have HR:=Lib.hid hr;clear hr;have HF8:=fgo w8 HF7;have hz8:=HF8.out.1;have hx8_0:g<w8.heap.size:=(by omega);have hx8_1:w1.heap.size<w8.heap.size:=(by omega);have hx8_2:w1.heap.size+1<w8.heap.size:=(by omega);obtain⟨q8_0,q8_1,q8_2,q8_3,q8_4,q8_5,q8_6,q8_7,q8_8,q8_9,q8_10,q8_11,q8_12,q8_13,q8_14,q8_15,-⟩:=HF8.out.alls 0 16;go_wp2_with fail
   refine hKc.out _ _ ?_ (fun hHeld=>?_);focus ((try dsimp only);exact(HF8.out.go blq).all 0 16)
   clear hKc Kc;refine nw ?_;refine OrdL.st 5 fun Kc hKc=>?_
   refine nv ?_;go_simp
   refine(c_FNeg (P:=fun _=>True) (HR.out.below blq) (by omega) (fun _ _=>trivial)).mono ?_;rintro e w9 ⟨z,rfl,hz,hb9⟩;have HZ:=Lib.hid hz;clear hz;have HF9:=fgo w9 HF8;have hz9:=HF9.out.1;have hx9_0:g<w9.heap.size:=(by omega);have hx9_1:w1.heap.size<w9.heap.size:=(by omega);have hx9_2:w1.heap.size+1<w9.heap.size:=(by omega);obtain⟨q9_0,q9_1,q9_2,q9_3,q9_4,q9_5,q9_6,q9_7,q9_8,q9_9,q9_10,q9_11,q9_12,q9_13,q9_14,q9_15,-⟩:=HF9.out.alls 0 16;go_wp2_with fail
   refine hKc.out _ _ ?_ (fun hHeld=>?_);focus ((try dsimp only);exact(HF9.out.go blq).all 0 16)
   clear hKc Kc;refine nw ?_;refine OrdL.st 6 fun Kc hKc=>?_
   refine nv ?_;go_simp
   refine(c_told (P:=fun _=>True) (K:=34) (HZ.out.below blq) (by omega)).mono ?_;rintro e w10 ⟨rfl,hb10⟩;have HF10:=fgo w10 HF9;have hz10:=HF10.out.1;have hx10_0:g<w10.heap.size:=(by omega);have hx10_1:w1.heap.size<w10.heap.size:=(by omega);have hx10_2:w1.heap.size+1<w10.heap.size:=(by omega);obtain⟨q10_0,q10_1,q10_2,q10_3,q10_4,q10_5,q10_6,q10_7,q10_8,q10_9,q10_10,q10_11,q10_12,q10_13,q10_14,q10_15,-⟩:=HF10.out.alls 0 16;go_wp2_with fail
   refine hKc.out _ _ ?_ (fun hHeld=>?_);focus ((try dsimp only);exact(HF10.out.go blq).all 0 16)
   clear hKc Kc;refine nw ?_;refine OrdL.tk 7 (some 50) ?_;refine nw ?_;refine OrdL.tk 8 (some 51) ?_;refine nw ?_;refine OrdL.tk 9 (some 4) ?_;refine nw ?_;refine OrdL.tk 10 (some 5) ?_;refine nw ?_;refine OrdL.done (by kernel_rfl) ?_ _;go_wp2_with fail
   go_ret2
   exact⟨by rw [HE.out];rfl,blq⟩
 · simp only [List.getElem_toArray,List.getElem_cons_zero,List.getElem_cons_succ];go_simp
   refine hKc.out _ _ ?_ (fun hHeld=>?_);focus ((try dsimp only);exact(HFb1.out.go blq).all 0 8)
   clear hKc Kc;refine nw ?_;refine OrdL.st 6 fun Kc hKc=>?_
   refine nv ?_;go_simp
   go_wp2_with fail
   refine hKc.out _ _ ?_ (fun hHeld=>?_);focus ((try dsimp only);exact(HFb1.out.go blq).all 0 8)
   clear hKc Kc;refine nw ?_;refine OrdL.st 8 fun Kc hKc=>?_
   refine nv ?_;go_simp
   go_wp2_with fail
   refine hKc.out _ _ ?_ (fun hHeld=>?_);focus ((try dsimp only);exact(HFb1.out.go blq).all 0 8)
   clear hKc Kc;refine nw ?_;refine OrdL.st 9 fun Kc hKc=>?_
   refine nv ?_;go_simp
   go_wp2_with fail
   refine hKc.out _ _ ?_ (fun hHeld=>?_);focus ((try dsimp only);exact(HFb1.out.go blq).all 0 8)
   clear hKc Kc;refine nw ?_;refine OrdL.done (by kernel_rfl) ?_ _;have HFc:=Lib.hid (show Fr [(w1.heap.size+1,0,(.bool x.num.b)),(w1.heap.size+1,1,(.slice x.num.A x.num.n x.num.c)),(w1.heap.size+1,2,(.bool x.den.b)),(w1.heap.size+1,3,(.slice x.den.A x.den.n x.den.c)),(w1.heap.size,0,(.bool y.num.b)),(w1.heap.size,1,(.slice y.num.A y.num.n y.num.c)),(w1.heap.size,2,(.bool y.den.b)),(w1.heap.size,3,(.slice y.den.A y.den.n y.den.c)),(g,0,(.bool x.num.b)),(g,1,(.slice x.num.A x.num.n x.num.c)),(g,2,(.bool x.den.b)),(g,3,(.slice x.den.A x.den.n x.den.c)),(g,4,(.bool y.num.b)),(g,5,(.slice y.num.A y.num.n y.num.c)),(g,6,(.bool y.den.b)),(g,7,(.slice y.den.A y.den.n y.den.c))] (w1.heap.size+1+1) ((w1.alloc (.cells #[.bool y.num.b,.slice y.num.A y.num.n y.num.c,.bool y.den.b,.slice y.den.A y.den.n y.den.c] 52)).alloc (.cells #[.bool x.num.b,.slice x.num.A x.num.n x.num.c,.bool x.den.b,.slice x.den.A x.den.n x.den.c] 52))from (by have h9:=((HFb1.out.new4 (.bool y.num.b) (.slice y.num.A y.num.n y.num.c) (.bool y.den.b) (.slice y.den.A y.den.n y.den.c) 52).new4 (.bool x.num.b) (.slice x.num.A x.num.n x.num.c) (.bool x.den.b) (.slice x.den.A x.den.n x.den.c) 52);simpa using h9));go_wp2_with fail
   refine(c_FCmp' (P:=fun _=>True) (HX.out.below blq) (HY.out.below blq) (by omega) (fun _ _=>trivial) HS.out).mono ?_;rintro e w2 ⟨rfl,hb2⟩;have HF2:=fgo w2 HFc;have hz2:=HF2.out.1;have hx2_0:g<w2.heap.size:=(by omega);have hx2_1:w1.heap.size<w2.heap.size:=(by omega);have hx2_2:w1.heap.size+1<w2.heap.size:=(by omega);obtain⟨q2_0,q2_1,q2_2,q2_3,q2_4,q2_5,q2_6,q2_7,q2_8,q2_9,q2_10,q2_11,q2_12,q2_13,q2_14,q2_15,-⟩:=HF2.out.alls 0 16;go_wp2_with fail
   refine(c_FSign' (HX.out.below blq) HSX.out).mono ?_;rintro e w3 ⟨rfl,hb3⟩;have HF3:=fgo w3 HF2;have hz3:=HF3.out.1;have hx3_0:g<w3.heap.size:=(by omega);have hx3_1:w1.heap.size<w3.heap.size:=(by omega);have hx3_2:w1.heap.size+1<w3.heap.size:=(by omega);obtain⟨q3_0,q3_1,q3_2,q3_3,q3_4,q3_5,q3_6,q3_7,q3_8,q3_9,q3_10,q3_11,q3_12,q3_13,q3_14,q3_15,-⟩:=HF3.out.alls 0 16;go_wp2_with fail
   refine(c_FSign' (HY.out.below blq) HSY.out).mono ?_;rintro e w4 ⟨rfl,hb4⟩;have HF4:=fgo w4 HF3;have hz4:=HF4.out.1;have hx4_0:g<w4.heap.size:=(by omega);have hx4_1:w1.heap.size<w4.heap.size:=(by omega);have hx4_2:w1.heap.size+1<w4.heap.size:=(by omega);obtain⟨q4_0,q4_1,q4_2,q4_3,q4_4,q4_5,q4_6,q4_7,q4_8,q4_9,q4_10,q4_11,q4_12,q4_13,q4_14,q4_15,-⟩:=HF4.out.alls 0 16;go_wp2_with fail
   refine(c_FSign' (HY.out.below blq) HSY.out).mono ?_;rintro e w5 ⟨rfl,hb5⟩;have HF5:=fgo w5 HF4;have hz5:=HF5.out.1;have hx5_0:g<w5.heap.size:=(by omega);have hx5_1:w1.heap.size<w5.heap.size:=(by omega);have hx5_2:w1.heap.size+1<w5.heap.size:=(by omega);obtain⟨q5_0,q5_1,q5_2,q5_3,q5_4,q5_5,q5_6,q5_7,q5_8,q5_9,q5_10,q5_11,q5_12,q5_13,q5_14,q5_15,-⟩:=HF5.out.alls 0 16;go_wp2_with fail
   refine OrdL.begin_ (S:=fun W=>W.cell? ⟨w1.heap.size+1,0,none⟩=some (.bool x.num.b)∧W.cell? ⟨w1.heap.size+1,1,none⟩=some (.slice x.num.A x.num.n x.num.c)∧W.cell? ⟨w1.heap.size+1,2,none⟩=some (.bool x.den.b)∧W.cell? ⟨w1.heap.size+1,3,none⟩=some (.slice x.den.A x.den.n x.den.c)∧W.cell? ⟨w1.heap.size,0,none⟩=some (.bool y.num.b)∧W.cell? ⟨w1.heap.size,1,none⟩=some (.slice y.num.A y.num.n y.num.c)∧W.cell? ⟨w1.heap.size,2,none⟩=some (.bool y.den.b)∧W.cell? ⟨w1.heap.size,3,none⟩=some (.slice y.den.A y.den.n y.den.c)∧W.cell? ⟨g,0,none⟩=some (.bool x.num.b)∧W.cell? ⟨g,1,none⟩=some (.slice x.num.A x.num.n x.num.c)∧W.cell? ⟨g,2,none⟩=some (.bool x.den.b)∧W.cell? ⟨g,3,none⟩=some (.slice x.den.A x.den.n x.den.c)∧W.cell? ⟨g,4,none⟩=some (.bool y.num.b)∧W.cell? ⟨g,5,none⟩=some (.slice y.num.A y.num.n y.num.c)∧W.cell? ⟨g,6,none⟩=some (.bool y.den.b)∧W.cell? ⟨g,7,none⟩=some (.slice y.den.A y.den.n y.den.c)) [] [] (by kernel_rfl) ?_ (fun hHeld=>?_);focus ((try dsimp only);exact(HF5.out.go blq).all 0 16)
   refine OrdL.tk 0 (some 43) ?_;refine nw ?_;refine OrdL.tk 2 (some 45) ?_;refine nw ?_;refine OrdL.st 1 fun Kc hKc=>?_
   refine nv ?_;go_simp
   refine(c_FNeg (P:=fun _=>True) (HY.out.below blq) (by omega) (fun _ _=>trivial)).mono ?_;rintro e w6 ⟨ny,rfl,hny,hb6⟩;have HNY:=Lib.hid hny;clear hny;have HF6:=fgo w6 HF5;have hz6:=HF6.out.1;have hx6_0:g<w6.heap.size:=(by omega);have hx6_1:w1.heap.size<w6.heap.size:=(by omega);have hx6_2:w1.heap.size+1<w6.heap.size:=(by omega);obtain⟨q6_0,q6_1,q6_2,q6_3,q6_4,q6_5,q6_6,q6_7,q6_8,q6_9,q6_10,q6_11,q6_12,q6_13,q6_14,q6_15,-⟩:=HF6.out.alls 0 16;go_wp2_with fail
   refine hKc.out _ _ ?_ (fun hHeld=>?_);focus ((try dsimp only);exact(HF6.out.go blq).all 0 16)
   clear hKc Kc;refine nw ?_;refine OrdL.st 3 fun Kc hKc=>?_
   refine nv ?_;go_simp
   refine(c_FNeg (P:=fun _=>True) (HX.out.below blq) (by omega) (fun _ _=>trivial)).mono ?_;rintro e w7 ⟨nx,rfl,hnx,hb7⟩;have HNX:=Lib.hid hnx;clear hnx;have HF7:=fgo w7 HF6;have hz7:=HF7.out.1;have hx7_0:g<w7.heap.size:=(by omega);have hx7_1:w1.heap.size<w7.heap.size:=(by omega);have hx7_2:w1.heap.size+1<w7.heap.size:=(by omega);obtain⟨q7_0,q7_1,q7_2,q7_3,q7_4,q7_5,q7_6,q7_7,q7_8,q7_9,q7_10,q7_11,q7_12,q7_13,q7_14,q7_15,-⟩:=HF7.out.alls 0 16;go_wp2_with fail
   refine hKc.out _ _ ?_ (fun hHeld=>?_);focus ((try dsimp only);exact(HF7.out.go blq).all 0 16)
   clear hKc Kc;refine nw ?_;refine OrdL.st 4 fun Kc hKc=>?_
   refine nv ?_;go_simp
   refine(c_simplest _ (fun _=>True) _ ny nx _ _ (HNY.out.below blq) (HNX.out.below blq) HR1.out HR2.out (Nat.le_refl _) (fun _ _=>trivial)).mono ?_;rintro e w8 ⟨r,rfl,hr,hb8⟩;have HR:=Lib.hid hr;clear hr;have HF8:=fgo w8 HF7;have hz8:=HF8.out.1;have hx8_0:g<w8.heap.size:=(by omega);have hx8_1:w1.heap.size<w8.heap.size:=(by omega);have hx8_2:w1.heap.size+1<w8.heap.size:=(by omega);obtain⟨q8_0,q8_1,q8_2,q8_3,q8_4,q8_5,q8_6,q8_7,q8_8,q8_9,q8_10,q8_11,q8_12,q8_13,q8_14,q8_15,-⟩:=HF8.out.alls 0 16;go_wp2_with fail
   refine hKc.out _ _ ?_ (fun hHeld=>?_);focus ((try dsimp only);exact(HF8.out.go blq).all 0 16)
   clear hKc Kc;refine nw ?_;refine OrdL.st 5 fun Kc hKc=>?_
   refine nv ?_;go_simp
   refine(c_FNeg (P:=fun _=>True) (HR.out.below blq) (by omega) (fun _ _=>trivial)).mono ?_;rintro e w9 ⟨z,rfl,hz,hb9⟩;have HZ:=Lib.hid hz;clear hz;have HF9:=fgo w9 HF8;have hz9:=HF9.out.1;have hx9_0:g<w9.heap.size:=(by omega);have hx9_1:w1.heap.size<w9.heap.size:=(by omega);have hx9_2:w1.heap.size+1<w9.heap.size:=(by omega);obtain⟨q9_0,q9_1,q9_2,q9_3,q9_4,q9_5,q9_6,q9_7,q9_8,q9_9,q9_10,q9_11,q9_12,q9_13,q9_14,q9_15,-⟩:=HF9.out.alls 0 16;go_wp2_with fail
   refine hKc.out _ _ ?_ (fun hHeld=>?_);focus ((try dsimp only);exact(HF9.out.go blq).all 0 16)
   clear hKc Kc;refine nw ?_;refine OrdL.st 6 fun Kc hKc=>?_
   refine nv ?_;go_simp
   refine(c_told (P:=fun _=>True) (K:=34) (HZ.out.below blq) (by omega)).mono ?_;rintro e w10 ⟨rfl,hb10⟩;have HF10:=fgo w10 HF9;have hz10:=HF10.out.1;have hx10_0:g<w10.heap.size:=(by omega);have hx10_1:w1.heap.size<w10.heap.size:=(by omega);have hx10_2:w1.heap.size+1<w10.heap.size:=(by omega);obtain⟨q10_0,q10_1,q10_2,q10_3,q10_4,q10_5,q10_6,q10_7,q10_8,q10_9,q10_10,q10_11,q10_12,q10_13,q10_14,q10_15,-⟩:=HF10.out.alls 0 16;go_wp2_with fail
   refine hKc.out _ _ ?_ (fun hHeld=>?_);focus ((try dsimp only);exact(HF10.out.go blq).all 0 16)
   clear hKc Kc;refine nw ?_;refine OrdL.tk 7 (some 50) ?_;refine nw ?_;refine OrdL.tk 8 (some 51) ?_;refine nw ?_;refine OrdL.tk 9 (some 4) ?_;refine nw ?_;refine OrdL.tk 10 (some 5) ?_;refine nw ?_;refine OrdL.done (by kernel_rfl) ?_ _;go_wp2_with fail
   go_ret2
   exact⟨by rw [HE.out];rfl,blq⟩
theorem c_rSimplest_p(a b:ByteArray)(ha:a.size≤140737488351232)(hb:b.size≤140737488351232){q p:Rat}(hq:numB a=some q)(hp:numB b=some p)(h0:¬0<(q-p).num.sign)(h1:0<q.num.sign)(h3:q≤p)(h4:0<q) :
 Calls Tryz.prog 9 #[.string a,.string b] w fun e w'=>e=.returned (.tuple #[.string (rSimplest a b).1,.int .i64 (rSimplest a b).2])∧Below w.heap.size w w':=by
 have HA:=Lib.hid ha
 have HB:=Lib.hid hb
 clear ha hb
 have HQ:=Lib.hid hq
 have HP:=Lib.hid hp
 have HE:=Lib.hid (show rSimplest a b=tellB (simpQ q p)from by rw [rSimplest,hq,hp];exact(if_neg h0).trans ((if_neg (fun h=>by omega)).trans (if_neg (fun h=>absurd h (Int.not_lt.2 (Int.le_of_lt (sign_p (by grind))))))))
 obtain⟨s,hs⟩:∃z,z=(q-p).num.sign:=⟨_,rfl⟩
 have HS:=Lib.hid hs.symm
 obtain⟨sx,hsx⟩:∃z,z=q.num.sign:=⟨_,rfl⟩
 have HSX:=Lib.hid hsx.symm
 obtain⟨sy,hsy⟩:∃z,z=p.num.sign:=⟨_,rfl⟩
 have HSY:=Lib.hid hsy.symm
 have hs0:s≤0:=by omega
 have hs1:0<sx:=by omega
 have HSY0:=Lib.hid (show 0≤sy from by rw [hsy];exact Int.le_of_lt (sign_p (by grind)))
 have hs2:=HSY0.out
 have HR1:=Lib.hid h4
 have HR2:=Lib.hid h3
 clear hs hsx hsy h0 h1 h3 h4
 clear hq hp
 have HF0:=Lib.hid (show Fr [] (w.heap.size) w from(Fr.nil (by simp)))
 go_enter Tryz.func9,Tryz.ntmps9
 go_wp2_with fail
 refine(c_parsed_yes a b HA.out HB.out HQ.out HP.out).mono ?_
 rintro e w1 ⟨x,y,g,c,rfl,hfr,hx,hy,hb1⟩
 have HFR:=Lib.hid hfr;clear hfr
 have HX:=Lib.hid hx;clear hx
 have HY:=Lib.hid hy;clear hy
 have HF1:=fgo w1 HF0
 have hz1:=HF1.out.1
 have HFb1:=Lib.hid (show Fr [(g,0,(.bool x.num.b)),(g,1,(.slice x.num.A x.num.n x.num.c)),(g,2,(.bool x.den.b)),(g,3,(.slice x.den.A x.den.n x.den.c)),(g,4,(.bool y.num.b)),(g,5,(.slice y.num.A y.num.n y.num.c)),(g,6,(.bool y.den.b)),(g,7,(.slice y.den.A y.den.n y.den.c))] (g+1) w1 from HFR.out)
 have hg1:g<w1.heap.size:=HFb1.out.1
 obtain⟨_,_,_,_,_,_,_,_,-⟩:=HFb1.out.alls 0 8
 go_wp2_with fail
 refine OrdL.begin_ (S:=fun W=>W.cell? ⟨g,0,none⟩=some (.bool x.num.b)∧W.cell? ⟨g,1,none⟩=some (.slice x.num.A x.num.n x.num.c)∧W.cell? ⟨g,2,none⟩=some (.bool x.den.b)∧W.cell? ⟨g,3,none⟩=some (.slice x.den.A x.den.n x.den.c)∧W.cell? ⟨g,4,none⟩=some (.bool y.num.b)∧W.cell? ⟨g,5,none⟩=some (.slice y.num.A y.num.n y.num.c)∧W.cell? ⟨g,6,none⟩=some (.bool y.den.b)∧W.cell? ⟨g,7,none⟩=some (.slice y.den.A y.den.n y.den.c)) [] [] (by kernel_rfl) ?_ (fun hHeld=>?_)
 focus ((try dsimp only);exact(HFb1.out.go blq).all 0 8)
 refine OrdL.tk 0 (some 19) ?_
 refine nw ?_
 refine OrdL.tk 1 (some 20) ?_
 refine nw ?_
 refine OrdL.tk 2 (some 21) ?_
 refine nw ?_
 refine OrdL.tk 3 (some 22) ?_
 refine nw ?_
 refine OrdL.tk 4 (some 23) ?_
 refine nw ?_
 refine OrdL.tk 5 (some 24) ?_
 refine nw ?_
 refine OrdL.step2 (i:=6) (j:=7) rfl rfl (by decide) (by decide) (by kernel_rfl) (fun Kc hKc=>?_) (fun Kc hKc=>?_)
 · simp only [List.getElem_toArray,List.getElem_cons_zero,List.getElem_cons_succ];go_simp
   refine hKc.out _ _ ?_ (fun hHeld=>?_);focus ((try dsimp only);exact(HFb1.out.go blq).all 0 8)
   clear hKc Kc;refine nw ?_;refine OrdL.st 7 fun Kc hKc=>?_
   refine nv ?_;go_simp
   go_wp2_with fail
   refine hKc.out _ _ ?_ (fun hHeld=>?_);focus ((try dsimp only);exact(HFb1.out.go blq).all 0 8)
   clear hKc Kc;refine nw ?_;refine OrdL.st 8 fun Kc hKc=>?_
   refine nv ?_;go_simp
   go_wp2_with fail
   refine hKc.out _ _ ?_ (fun hHeld=>?_);focus ((try dsimp only);exact(HFb1.out.go blq).all 0 8)
   clear hKc Kc;refine nw ?_;refine OrdL.st 9 fun Kc hKc=>?_
   refine nv ?_;go_simp
   go_wp2_with fail
   refine hKc.out _ _ ?_ (fun hHeld=>?_);focus ((try dsimp only);exact(HFb1.out.go blq).all 0 8)
   clear hKc Kc;refine nw ?_;refine OrdL.done (by kernel_rfl) ?_ _;have HFc:=Lib.hid (show Fr [(w1.heap.size+1,0,(.bool y.num.b)),(w1.heap.size+1,1,(.slice y.num.A y.num.n y.num.c)),(w1.heap.size+1,2,(.bool y.den.b)),(w1.heap.size+1,3,(.slice y.den.A y.den.n y.den.c)),(w1.heap.size,0,(.bool x.num.b)),(w1.heap.size,1,(.slice x.num.A x.num.n x.num.c)),(w1.heap.size,2,(.bool x.den.b)),(w1.heap.size,3,(.slice x.den.A x.den.n x.den.c)),(g,0,(.bool x.num.b)),(g,1,(.slice x.num.A x.num.n x.num.c)),(g,2,(.bool x.den.b)),(g,3,(.slice x.den.A x.den.n x.den.c)),(g,4,(.bool y.num.b)),(g,5,(.slice y.num.A y.num.n y.num.c)),(g,6,(.bool y.den.b)),(g,7,(.slice y.den.A y.den.n y.den.c))] (w1.heap.size+1+1) ((w1.alloc (.cells #[.bool x.num.b,.slice x.num.A x.num.n x.num.c,.bool x.den.b,.slice x.den.A x.den.n x.den.c] 52)).alloc (.cells #[.bool y.num.b,.slice y.num.A y.num.n y.num.c,.bool y.den.b,.slice y.den.A y.den.n y.den.c] 52))from (by have h9:=((HFb1.out.new4 (.bool x.num.b) (.slice x.num.A x.num.n x.num.c) (.bool x.den.b) (.slice x.den.A x.den.n x.den.c) 52).new4 (.bool y.num.b) (.slice y.num.A y.num.n y.num.c) (.bool y.den.b) (.slice y.den.A y.den.n y.den.c) 52);simpa using h9));go_wp2_with fail
   refine(c_FCmp' (P:=fun _=>True) (HX.out.below blq) (HY.out.below blq) (by omega) (fun _ _=>trivial) HS.out).mono ?_;rintro e w2 ⟨rfl,hb2⟩;have HF2:=fgo w2 HFc;have hz2:=HF2.out.1;have hx2_0:g<w2.heap.size:=(by omega);have hx2_1:w1.heap.size<w2.heap.size:=(by omega);have hx2_2:w1.heap.size+1<w2.heap.size:=(by omega);obtain⟨q2_0,q2_1,q2_2,q2_3,q2_4,q2_5,q2_6,q2_7,q2_8,q2_9,q2_10,q2_11,q2_12,q2_13,q2_14,q2_15,-⟩:=HF2.out.alls 0 16;go_wp2_with fail
   refine(c_FSign' (HX.out.below blq) HSX.out).mono ?_;rintro e w3 ⟨rfl,hb3⟩;have HF3:=fgo w3 HF2;have hz3:=HF3.out.1;have hx3_0:g<w3.heap.size:=(by omega);have hx3_1:w1.heap.size<w3.heap.size:=(by omega);have hx3_2:w1.heap.size+1<w3.heap.size:=(by omega);obtain⟨q3_0,q3_1,q3_2,q3_3,q3_4,q3_5,q3_6,q3_7,q3_8,q3_9,q3_10,q3_11,q3_12,q3_13,q3_14,q3_15,-⟩:=HF3.out.alls 0 16;go_wp2_with fail
   refine(c_FSign' (HY.out.below blq) HSY.out).mono ?_;rintro e w4 ⟨rfl,hb4⟩;have HF4:=fgo w4 HF3;have hz4:=HF4.out.1;have hx4_0:g<w4.heap.size:=(by omega);have hx4_1:w1.heap.size<w4.heap.size:=(by omega);have hx4_2:w1.heap.size+1<w4.heap.size:=(by omega);obtain⟨q4_0,q4_1,q4_2,q4_3,q4_4,q4_5,q4_6,q4_7,q4_8,q4_9,q4_10,q4_11,q4_12,q4_13,q4_14,q4_15,-⟩:=HF4.out.alls 0 16;go_wp2_with fail
   refine(c_simplest _ (fun _=>True) _ x y _ _ (HX.out.below blq) (HY.out.below blq) HR1.out HR2.out (Nat.le_refl _) (fun _ _=>trivial)).mono ?_;rintro e w5 ⟨r,rfl,hr,hb5⟩;have HR:=Lib.hid hr;clear hr;have HF5:=fgo w5 HF4;have hz5:=HF5.out.1;have hx5_0:g<w5.heap.size:=(by omega);have hx5_1:w1.heap.size<w5.heap.size:=(by omega);have hx5_2:w1.heap.size+1<w5.heap.size:=(by omega);obtain⟨q5_0,q5_1,q5_2,q5_3,q5_4,q5_5,q5_6,q5_7,q5_8,q5_9,q5_10,q5_11,q5_12,q5_13,q5_14,q5_15,-⟩:=HF5.out.alls 0 16;go_wp2_with fail
   refine(c_told (P:=fun _=>True) (K:=34) (HR.out.below blq) (by omega)).mono ?_;rintro e w6 ⟨rfl,hb6⟩;have HF6:=fgo w6 HF5;have hz6:=HF6.out.1;have hx6_0:g<w6.heap.size:=(by omega);have hx6_1:w1.heap.size<w6.heap.size:=(by omega);have hx6_2:w1.heap.size+1<w6.heap.size:=(by omega);obtain⟨q6_0,q6_1,q6_2,q6_3,q6_4,q6_5,q6_6,q6_7,q6_8,q6_9,q6_10,q6_11,q6_12,q6_13,q6_14,q6_15,-⟩:=HF6.out.alls 0 16;go_wp2_with fail
   go_ret2
   exact⟨by rw [HE.out];rfl,blq⟩
 · simp only [List.getElem_toArray,List.getElem_cons_zero,List.getElem_cons_succ];go_simp
   refine hKc.out _ _ ?_ (fun hHeld=>?_);focus ((try dsimp only);exact(HFb1.out.go blq).all 0 8)
   clear hKc Kc;refine nw ?_;refine OrdL.st 6 fun Kc hKc=>?_
   refine nv ?_;go_simp
   go_wp2_with fail
   refine hKc.out _ _ ?_ (fun hHeld=>?_);focus ((try dsimp only);exact(HFb1.out.go blq).all 0 8)
   clear hKc Kc;refine nw ?_;refine OrdL.st 8 fun Kc hKc=>?_
   refine nv ?_;go_simp
   go_wp2_with fail
   refine hKc.out _ _ ?_ (fun hHeld=>?_);focus ((try dsimp only);exact(HFb1.out.go blq).all 0 8)
   clear hKc Kc;refine nw ?_;refine OrdL.st 9 fun Kc hKc=>?_
   refine nv ?_;go_simp
   go_wp2_with fail
   refine hKc.out _ _ ?_ (fun hHeld=>?_);focus ((try dsimp only);exact(HFb1.out.go blq).all 0 8)
   clear hKc Kc;refine nw ?_;refine OrdL.done (by kernel_rfl) ?_ _;have HFc:=Lib.hid (show Fr [(w1.heap.size+1,0,(.bool x.num.b)),(w1.heap.size+1,1,(.slice x.num.A x.num.n x.num.c)),(w1.heap.size+1,2,(.bool x.den.b)),(w1.heap.size+1,3,(.slice x.den.A x.den.n x.den.c)),(w1.heap.size,0,(.bool y.num.b)),(w1.heap.size,1,(.slice y.num.A y.num.n y.num.c)),(w1.heap.size,2,(.bool y.den.b)),(w1.heap.size,3,(.slice y.den.A y.den.n y.den.c)),(g,0,(.bool x.num.b)),(g,1,(.slice x.num.A x.num.n x.num.c)),(g,2,(.bool x.den.b)),(g,3,(.slice x.den.A x.den.n x.den.c)),(g,4,(.bool y.num.b)),(g,5,(.slice y.num.A y.num.n y.num.c)),(g,6,(.bool y.den.b)),(g,7,(.slice y.den.A y.den.n y.den.c))] (w1.heap.size+1+1) ((w1.alloc (.cells #[.bool y.num.b,.slice y.num.A y.num.n y.num.c,.bool y.den.b,.slice y.den.A y.den.n y.den.c] 52)).alloc (.cells #[.bool x.num.b,.slice x.num.A x.num.n x.num.c,.bool x.den.b,.slice x.den.A x.den.n x.den.c] 52))from (by have h9:=((HFb1.out.new4 (.bool y.num.b) (.slice y.num.A y.num.n y.num.c) (.bool y.den.b) (.slice y.den.A y.den.n y.den.c) 52).new4 (.bool x.num.b) (.slice x.num.A x.num.n x.num.c) (.bool x.den.b) (.slice x.den.A x.den.n x.den.c) 52);simpa using h9));go_wp2_with fail
   refine(c_FCmp' (P:=fun _=>True) (HX.out.below blq) (HY.out.below blq) (by omega) (fun _ _=>trivial) HS.out).mono ?_;rintro e w2 ⟨rfl,hb2⟩;have HF2:=fgo w2 HFc;have hz2:=HF2.out.1;have hx2_0:g<w2.heap.size:=(by omega);have hx2_1:w1.heap.size<w2.heap.size:=(by omega);have hx2_2:w1.heap.size+1<w2.heap.size:=(by omega);obtain⟨q2_0,q2_1,q2_2,q2_3,q2_4,q2_5,q2_6,q2_7,q2_8,q2_9,q2_10,q2_11,q2_12,q2_13,q2_14,q2_15,-⟩:=HF2.out.alls 0 16;go_wp2_with fail
   refine(c_FSign' (HX.out.below blq) HSX.out).mono ?_;rintro e w3 ⟨rfl,hb3⟩;have HF3:=fgo w3 HF2;have hz3:=HF3.out.1;have hx3_0:g<w3.heap.size:=(by omega);have hx3_1:w1.heap.size<w3.heap.size:=(by omega);have hx3_2:w1.heap.size+1<w3.heap.size:=(by omega);obtain⟨q3_0,q3_1,q3_2,q3_3,q3_4,q3_5,q3_6,q3_7,q3_8,q3_9,q3_10,q3_11,q3_12,q3_13,q3_14,q3_15,-⟩:=HF3.out.alls 0 16;go_wp2_with fail
   refine(c_FSign' (HY.out.below blq) HSY.out).mono ?_;rintro e w4 ⟨rfl,hb4⟩;have HF4:=fgo w4 HF3;have hz4:=HF4.out.1;have hx4_0:g<w4.heap.size:=(by omega);have hx4_1:w1.heap.size<w4.heap.size:=(by omega);have hx4_2:w1.heap.size+1<w4.heap.size:=(by omega);obtain⟨q4_0,q4_1,q4_2,q4_3,q4_4,q4_5,q4_6,q4_7,q4_8,q4_9,q4_10,q4_11,q4_12,q4_13,q4_14,q4_15,-⟩:=HF4.out.alls 0 16;go_wp2_with fail
   refine(c_simplest _ (fun _=>True) _ x y _ _ (HX.out.below blq) (HY.out.below blq) HR1.out HR2.out (Nat.le_refl _) (fun _ _=>trivial)).mono ?_;rintro e w5 ⟨r,rfl,hr,hb5⟩;have HR:=Lib.hid hr;clear hr;have HF5:=fgo w5 HF4;have hz5:=HF5.out.1;have hx5_0:g<w5.heap.size:=(by omega);have hx5_1:w1.heap.size<w5.heap.size:=(by omega);have hx5_2:w1.heap.size+1<w5.heap.size:=(by omega);obtain⟨q5_0,q5_1,q5_2,q5_3,q5_4,q5_5,q5_6,q5_7,q5_8,q5_9,q5_10,q5_11,q5_12,q5_13,q5_14,q5_15,-⟩:=HF5.out.alls 0 16;go_wp2_with fail
   refine(c_told (P:=fun _=>True) (K:=34) (HR.out.below blq) (by omega)).mono ?_;rintro e w6 ⟨rfl,hb6⟩;have HF6:=fgo w6 HF5;have hz6:=HF6.out.1;have hx6_0:g<w6.heap.size:=(by omega);have hx6_1:w1.heap.size<w6.heap.size:=(by omega);have hx6_2:w1.heap.size+1<w6.heap.size:=(by omega);obtain⟨q6_0,q6_1,q6_2,q6_3,q6_4,q6_5,q6_6,q6_7,q6_8,q6_9,q6_10,q6_11,q6_12,q6_13,q6_14,q6_15,-⟩:=HF6.out.alls 0 16;go_wp2_with fail
   go_ret2
   exact⟨by rw [HE.out];rfl,blq⟩
theorem c_rSimplest(a b:ByteArray)(ha:a.size≤140737488351232)(hb:b.size≤140737488351232) :
 Calls Tryz.prog 9 #[.string a,.string b] w fun e w'=>e=.returned (.tuple #[.string (rSimplest a b).1,.int .i64 (rSimplest a b).2])∧Below w.heap.size w w':=by
 cases hq:numB a with
 | none=>exact c_rSimplest_n a b ha hb (.inl hq)
 | some q =>
  cases hp:numB b with
  | none=>exact c_rSimplest_n a b ha hb (.inr hp)
  | some p =>
   by_cases h0:0<(q-p).num.sign
   · exact c_rSimplest_a a b ha hb hq hp h0
   · have hle:q≤p:=by
      rcases Rat.le_total (a:=q) (b:=p)with h|h
      · exact h
      · by_cases he:q=p
        · rw [he];exact Rat.le_refl
        · exact absurd (sign_p (q:=q-p) (by grind)) h0
     by_cases h1:q.num.sign≤0
     · by_cases h2:0≤p.num.sign
       · exact c_rSimplest_z a b ha hb hq hp h0 h1 h2
       · refine c_rSimplest_m a b ha hb hq hp h0 (by omega) hle ?_;rcases Rat.le_total (a:=0) (b:=p)with h|h
         · by_cases he:p=0
           · rw [he]at h2;exact absurd (by decide) h2
           · exact absurd (Int.le_of_lt (sign_p (q:=p) (by grind))) h2
         · by_cases he:p=0
           · rw [he]at h2;exact absurd (by decide) h2
           · grind
     · refine c_rSimplest_p a b ha hb hq hp h0 (by omega) hle ?_;rcases Rat.le_total (a:=q) (b:=0)with h|h
       · exact absurd (sign_np h) h1
       · by_cases he:q=0
         · rw [he]at h1;exact absurd (by decide) h1
         · grind
end
end Go.Proofs.YtpdghgfbfmaplaaGreatDoor.Wh
end
