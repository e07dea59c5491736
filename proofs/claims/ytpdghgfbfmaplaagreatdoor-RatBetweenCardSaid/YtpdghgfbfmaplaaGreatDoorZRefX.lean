/- Lemmas for RatOne and RatBetween. -/
import Derived.Test.YtpdghgfbfmaplaaGreatDoorZRefU
import Derived.Test.YtpdghgfbfmaplaaGreatDoorZRatF
set_option maxRecDepth 100000
set_option maxHeartbeats 8000000
section
set_option linter.unusedVariables false
set_option linter.unusedSimpArgs false
namespace Go.Proofs.YtpdghgfbfmaplaaGreatDoor.Rf
open Go.RowKit Go.Proofs.YtpdghgfbfmaplaaGreatDoorW.PrintWords Go.Proofs.YtpdghgfbfmaplaaGreatDoor.Num Go.Proofs.YtpdghgfbfmaplaaGreatDoor.PRef Go.Proofs.YtpdghgfbfmaplaaGreatDoor.WhC Go.Proofs.YtpdghgfbfmaplaaGreatDoor.Dec Go.Proofs.YtpdghgfbfmaplaaGreatDoor.Wh
section
variable {w:World}
def SimpSaid'(n:Nat):Prop:=∀(P:Nat→Prop) (w:World) (x y:QV) (q p:Rat),IsQ P 75 w x q→IsQ P 75 w y p→0<q→q≤p→q.den+p.den≤n→(∀k,w.heap.size≤k→P k) →
 Calls Tryz.prog 53 #[.agg #[.bool x.b,.slice x.nA x.nn x.nc,.slice x.dA x.dn x.dc],.agg #[.bool y.b,.slice y.nA y.nn y.nc,.slice y.dA y.dn y.dc]] w fun e w'=>∃r:QV,e=.returned (.agg #[.bool r.b,.slice r.nA r.nn r.nc,.slice r.dA r.dn r.dc])∧IsQ P 75 w' r (simpF n q p)∧Below w.heap.size w w'
theorem floor_le_iff{q p:Rat}:(((q.floor:Int):Rat)+1-p).num.sign≤0↔q.floor<p.floor:=by
 have h1:((q.floor:Int):Rat)+1≤p↔q.floor<p.floor:=by
  rw [show ((q.floor:Int):Rat)+1=((q.floor+1:Int):Rat) by rw [Rat.intCast_add];rfl,←Rat.le_floor_iff];omega
 rw [←h1]
 constructor
 · intro h;rcases Rat.le_total (a:=((q.floor:Int):Rat)+1) (b:=p)with h2|h2
   · exact h2
   · by_cases he:((q.floor:Int):Rat)+1=p
     · rw [he];exact Rat.le_refl
     · exact absurd (sign_p (q:=((q.floor:Int):Rat)+1-p) (by grind)) (by omega)
 · intro h;exact sign_np (by grind)
theorem floor_int{q:Rat}(h:q.den=1):((q.floor:Int):Rat)=q:=by
 rw [Rat.floor_def,h,show ((1:Nat):Int)=1 from rfl,Int.ediv_one]
 exact Rat.ext rfl (by rw [h];rfl)
theorem floor_nint{q:Rat}(h:¬q.den=1):(((q.floor:Int):Rat)-q).num.sign= -1:=by
 have h1:=Rat.floor_le q
 have h2:((q.floor:Int):Rat)≠q:=fun e=>h (by have h5:=congrArg Rat.den e;rw [←h5];rfl)
 have h3:0<q-((q.floor:Int):Rat):=by grind
 have h4:=num_pos.2 h3
 rw [show ((q.floor:Int):Rat)-q= -(q-((q.floor:Int):Rat)) by grind,Rat.neg_num]
 exact Int.sign_eq_neg_one_of_neg (by omega)
theorem qsimp_i(n:Nat)(P:Nat→Prop)(w:World)(x y:QV)(q p:Rat)(hx:IsQ P 75 w x q)(hy:IsQ P 75 w y p)(hq:0<q)(hp:q≤p)(hn:q.den+p.den≤n+1)(hP:∀k,w.heap.size≤k→P k)(hi:q.den=1) :
 Calls Tryz.prog 53 #[.agg #[.bool x.b,.slice x.nA x.nn x.nc,.slice x.dA x.dn x.dc],.agg #[.bool y.b,.slice y.nA y.nn y.nc,.slice y.dA y.dn y.dc]] w fun e w'=>∃r:QV,e=.returned (.agg #[.bool r.b,.slice r.nA r.nn r.nc,.slice r.dA r.dn r.dc])∧IsQ P 75 w' r (simpF (n+1) q p)∧Below w.heap.size w w':=by
 have HBD:=Lib.hid (simp_bd hq hp hn)
 have HSX:=Lib.hid (Int.sign_eq_one_of_pos (num_pos.2 hq))
 have HSY:=Lib.hid (Int.sign_eq_one_of_pos (num_pos.2 (show 0<p by grind)))
 have HX:=Lib.hid (hx.gap 3)
 have HY:=Lib.hid (hy.gap 3)
 have HYT:=Lib.hid (And.intro hy.bdn hy.bdd)
 have HP:=Lib.hid hP
 have HI:=Lib.hid (show(((q.floor:Int):Rat)-q).num.sign=0 from by rw [floor_int hi,Rat.sub_self];rfl)
 have HE:=Lib.hid (show simpF (n+1) q p=((q.floor:Int):Rat)from by rw [simpF];exact(if_pos hi).trans (floor_int hi).symm)
 clear hi
 clear hx hy hP hq hp hn
 have HF0:=Lib.hid (show Fr [(w.heap.size,0,(.bool x.b)),(w.heap.size,1,(.slice x.nA x.nn x.nc)),(w.heap.size,2,(.slice x.dA x.dn x.dc)),(w.heap.size+1,0,(.bool y.b)),(w.heap.size+1,1,(.slice y.nA y.nn y.nc)),(w.heap.size+1,2,(.slice y.dA y.dn y.dc)),(w.heap.size+1+1,0,(.bool false)),(w.heap.size+1+1,1,(.slice none 0 0)),(w.heap.size+1+1,2,(.slice none 0 0))] (w.heap.size+1+1+1) (((w.alloc (.cells #[.bool x.b,.slice x.nA x.nn x.nc,.slice x.dA x.dn x.dc] 60)).alloc (.cells #[.bool y.b,.slice y.nA y.nn y.nc,.slice y.dA y.dn y.dc] 60)).alloc (.cells #[.bool false,.slice none 0 0,.slice none 0 0] 60))from frq)
 go_enter Tryz.func53,Tryz.ntmps53
 go_wp2_with fail
 refine(q_Sign' (K:=75) (HX.out.below blq) (by decide) HSX.out).mono ?_
 rintro e w1 ⟨rfl,hb1⟩
 have HF1:=fgo w1 HF0
 have hz1:=HF1.out.1
 obtain⟨hl1_0,hl1_1,hl1_2⟩:=lt3 hz1
 obtain⟨_,_,_,_,_,_,_,_,_,-⟩:=HF1.out.alls 0 9
 obtain⟨_,_,_,-⟩:=HF1.out.falls 6 3
 go_wp2_with fail
 refine(q_Sign' (K:=75) (HY.out.below blq) (by decide) HSY.out).mono ?_
 rintro e w2 ⟨rfl,hb2⟩
 have HF2:=fgo w2 HF1
 have hz2:=HF2.out.1
 obtain⟨hl2_0,hl2_1,hl2_2⟩:=lt3 hz2
 obtain⟨_,_,_,_,_,_,_,_,_,-⟩:=HF2.out.alls 0 9
 obtain⟨_,_,_,-⟩:=HF2.out.falls 6 3
 go_wp2_with fail
 refine(q_Down (P:=Gp P w.heap.size 3) (HX.out.below blq) (by decide) (gap_fresh HP.out blq arq)).mono ?_
 rintro e w3 ⟨l,rfl,hl,hb3⟩
 have HL:=Lib.hid hl;clear hl
 have HF3:=fgo w3 HF2
 have hz3:=HF3.out.1
 obtain⟨hl3_0,hl3_1,hl3_2⟩:=lt3 hz3
 obtain⟨_,_,_,_,_,_,_,_,_,-⟩:=HF3.out.alls 0 9
 obtain⟨_,_,_,-⟩:=HF3.out.falls 6 3
 have HLZ:=Lib.hid (show IsQ (Gp P w.heap.size 3) 76 _ l ((q.floor:Int):Rat)from HL.out)
 have HFb3:=Lib.hid (HF3.out.new3 (.bool l.b) (.slice l.nA l.nn l.nc) (.slice l.dA l.dn l.dc) 60)
 go_wp2_with fail
 refine(q_Against (P:=Gp P w.heap.size 3) (K:=76) (HL.out.below blq) ((HX.out.wide (by decide)).below blq) (by decide) (gap_fresh HP.out blq arq) HI.out).mono ?_
 rintro e w4 ⟨rfl,hb4⟩
 have HF4:=fgo w4 HFb3
 have hz4:=HF4.out.1
 have hl4_0:w.heap.size<w4.heap.size:=(by omega)
 have hl4_1:w.heap.size+1<w4.heap.size:=(by omega)
 have hl4_2:w.heap.size+1+1<w4.heap.size:=(by omega)
 have hx4_0:w3.heap.size<w4.heap.size:=(by omega)
 obtain⟨_,_,_,_,_,_,_,_,_,q4_9,q4_10,q4_11,-⟩:=HF4.out.alls 0 12
 obtain⟨_,_,_,-⟩:=HF4.out.falls 9 3
 have HRT:=Lib.hid (show IsQ (Gp P w.heap.size 3) 75 _ l (simpF (n+1) q p)from (by rw [HE.out];exact IsQ.tight HLZ.out (by have:=HBD.out.1;rw [HE.out]at this;exact Nat.lt_of_le_of_lt this HYT.out.1) (by have:=HBD.out.2;rw [HE.out]at this;exact Nat.lt_of_le_of_lt this HYT.out.2)))
 go_wp2_with fail
 refine bodyPost_ret (v:=.agg #[.bool l.b,.slice l.nA l.nn l.nc,.slice l.dA l.dn l.dc]) (by simp [results,Tryz.results53,go_sem,q4_9,q4_10,q4_11]) rfl ⟨l,rfl,IsQ.ungap (s:=w.heap.size) (n:=3) ?_,blq⟩
 · exact(((HRT.out.below blq).put _ arq arq).put _ arq arq).put _ arq arq
theorem qsimp_b(n:Nat)(P:Nat→Prop)(w:World)(x y:QV)(q p:Rat)(hx:IsQ P 75 w x q)(hy:IsQ P 75 w y p)(hq:0<q)(hp:q≤p)(hn:q.den+p.den≤n+1)(hP:∀k,w.heap.size≤k→P k)(hi:¬q.den=1)(hf:q.floor<p.floor) :
 Calls Tryz.prog 53 #[.agg #[.bool x.b,.slice x.nA x.nn x.nc,.slice x.dA x.dn x.dc],.agg #[.bool y.b,.slice y.nA y.nn y.nc,.slice y.dA y.dn y.dc]] w fun e w'=>∃r:QV,e=.returned (.agg #[.bool r.b,.slice r.nA r.nn r.nc,.slice r.dA r.dn r.dc])∧IsQ P 75 w' r (simpF (n+1) q p)∧Below w.heap.size w w':=by
 have HBD:=Lib.hid (simp_bd hq hp hn)
 have HSX:=Lib.hid (Int.sign_eq_one_of_pos (num_pos.2 hq))
 have HSY:=Lib.hid (Int.sign_eq_one_of_pos (num_pos.2 (show 0<p by grind)))
 have HX:=Lib.hid (hx.gap 3)
 have HY:=Lib.hid (hy.gap 3)
 have HYT:=Lib.hid (And.intro hy.bdn hy.bdd)
 have HP:=Lib.hid hP
 have HI:=Lib.hid (floor_nint hi)
 obtain⟨sg,hsg,hsg0⟩:∃z,(((q.floor:Int):Rat)+1-p).num.sign=z∧z≤0:=⟨_,rfl,floor_le_iff.2 hf⟩
 have HS:=Lib.hid hsg
 clear hsg
 have HE:=Lib.hid (show simpF (n+1) q p=((q.floor:Int):Rat)+1 from by rw [simpF];exact(if_neg hi).trans (if_pos hf))
 clear hi hf
 clear hx hy hP hq hp hn
 have HF0:=Lib.hid (show Fr [(w.heap.size,0,(.bool x.b)),(w.heap.size,1,(.slice x.nA x.nn x.nc)),(w.heap.size,2,(.slice x.dA x.dn x.dc)),(w.heap.size+1,0,(.bool y.b)),(w.heap.size+1,1,(.slice y.nA y.nn y.nc)),(w.heap.size+1,2,(.slice y.dA y.dn y.dc)),(w.heap.size+1+1,0,(.bool false)),(w.heap.size+1+1,1,(.slice none 0 0)),(w.heap.size+1+1,2,(.slice none 0 0))] (w.heap.size+1+1+1) (((w.alloc (.cells #[.bool x.b,.slice x.nA x.nn x.nc,.slice x.dA x.dn x.dc] 60)).alloc (.cells #[.bool y.b,.slice y.nA y.nn y.nc,.slice y.dA y.dn y.dc] 60)).alloc (.cells #[.bool false,.slice none 0 0,.slice none 0 0] 60))from frq)
 go_enter Tryz.func53,Tryz.ntmps53
 go_wp2_with fail
 refine(q_Sign' (K:=75) (HX.out.below blq) (by decide) HSX.out).mono ?_
 rintro e w1 ⟨rfl,hb1⟩
 have HF1:=fgo w1 HF0
 have hz1:=HF1.out.1
 obtain⟨hl1_0,hl1_1,hl1_2⟩:=lt3 hz1
 obtain⟨_,_,_,_,_,_,_,_,_,-⟩:=HF1.out.alls 0 9
 obtain⟨_,_,_,-⟩:=HF1.out.falls 6 3
 go_wp2_with fail
 refine(q_Sign' (K:=75) (HY.out.below blq) (by decide) HSY.out).mono ?_
 rintro e w2 ⟨rfl,hb2⟩
 have HF2:=fgo w2 HF1
 have hz2:=HF2.out.1
 obtain⟨hl2_0,hl2_1,hl2_2⟩:=lt3 hz2
 obtain⟨_,_,_,_,_,_,_,_,_,-⟩:=HF2.out.alls 0 9
 obtain⟨_,_,_,-⟩:=HF2.out.falls 6 3
 go_wp2_with fail
 refine(q_Down (P:=Gp P w.heap.size 3) (HX.out.below blq) (by decide) (gap_fresh HP.out blq arq)).mono ?_
 rintro e w3 ⟨l,rfl,hl,hb3⟩
 have HL:=Lib.hid hl;clear hl
 have HF3:=fgo w3 HF2
 have hz3:=HF3.out.1
 obtain⟨hl3_0,hl3_1,hl3_2⟩:=lt3 hz3
 obtain⟨_,_,_,_,_,_,_,_,_,-⟩:=HF3.out.alls 0 9
 obtain⟨_,_,_,-⟩:=HF3.out.falls 6 3
 have HLZ:=Lib.hid (show IsQ (Gp P w.heap.size 3) 76 _ l ((q.floor:Int):Rat)from HL.out)
 have HFb3:=Lib.hid (HF3.out.new3 (.bool l.b) (.slice l.nA l.nn l.nc) (.slice l.dA l.dn l.dc) 60)
 go_wp2_with fail
 refine(q_Against (P:=Gp P w.heap.size 3) (K:=76) (HL.out.below blq) ((HX.out.wide (by decide)).below blq) (by decide) (gap_fresh HP.out blq arq) HI.out).mono ?_
 rintro e w4 ⟨rfl,hb4⟩
 have HF4:=fgo w4 HFb3
 have hz4:=HF4.out.1
 have hl4_0:w.heap.size<w4.heap.size:=(by omega)
 have hl4_1:w.heap.size+1<w4.heap.size:=(by omega)
 have hl4_2:w.heap.size+1+1<w4.heap.size:=(by omega)
 have hx4_0:w3.heap.size<w4.heap.size:=(by omega)
 obtain⟨_,_,_,_,_,_,_,_,_,_,_,_,-⟩:=HF4.out.alls 0 12
 obtain⟨_,_,_,-⟩:=HF4.out.falls 9 3
 go_wp2_with fail
 refine OrdL.begin_ (S:=fun W=>W.cell? ⟨w3.heap.size,0,none⟩=some (.bool l.b)∧W.cell? ⟨w3.heap.size,1,none⟩=some (.slice l.nA l.nn l.nc)∧W.cell? ⟨w3.heap.size,2,none⟩=some (.slice l.dA l.dn l.dc)∧W.cell? ⟨w.heap.size,0,none⟩=some (.bool x.b)∧W.cell? ⟨w.heap.size,1,none⟩=some (.slice x.nA x.nn x.nc)∧W.cell? ⟨w.heap.size,2,none⟩=some (.slice x.dA x.dn x.dc)∧W.cell? ⟨w.heap.size+1,0,none⟩=some (.bool y.b)∧W.cell? ⟨w.heap.size+1,1,none⟩=some (.slice y.nA y.nn y.nc)∧W.cell? ⟨w.heap.size+1,2,none⟩=some (.slice y.dA y.dn y.dc)∧W.cell? ⟨w.heap.size+1+1,0,none⟩=some (.bool false)∧W.cell? ⟨w.heap.size+1+1,1,none⟩=some (.slice none 0 0)∧W.cell? ⟨w.heap.size+1+1,2,none⟩=some (.slice none 0 0)) [] [] (by kernel_rfl) ?_ (fun hHeld=>?_)
 focus ((try dsimp only);exact(HF4.out.go blq).all 0 12)
 refine OrdL.tk 0 (some 31) ?_
 refine nw ?_
 refine OrdL.tk 3 (some 34) ?_
 refine nw ?_
 refine OrdL.st 1 fun Kc hKc=>?_
 refine nv ?_
 go_simp
 refine(q_Of (P:=Gp P w.heap.size 3) 1 (by decide) (by decide) (gap_fresh HP.out blq arq)).mono ?_
 rintro e w5 ⟨u1,rfl,hu1,hb5⟩
 have HU1:=Lib.hid hu1;clear hu1
 have HF5:=fgo w5 HF4
 have hz5:=HF5.out.1
 have hl5_0:w.heap.size<w5.heap.size:=(by omega)
 have hl5_1:w.heap.size+1<w5.heap.size:=(by omega)
 have hl5_2:w.heap.size+1+1<w5.heap.size:=(by omega)
 have hx5_0:w3.heap.size<w5.heap.size:=(by omega)
 obtain⟨_,_,_,_,_,_,_,_,_,_,_,_,-⟩:=HF5.out.alls 0 12
 obtain⟨_,_,_,-⟩:=HF5.out.falls 9 3
 go_wp2_with fail
 refine hKc.out _ _ ?_ (fun hHeld=>?_)
 focus ((try dsimp only);exact(HF5.out.go blq).all 0 12)
 clear hKc Kc
 refine nw ?_
 refine OrdL.st 2 fun Kc hKc=>?_
 refine nv ?_
 go_simp
 refine(q_Plus (P:=Gp P w.heap.size 3) (K:=76) (HL.out.below blq) ((HU1.out.wide (by decide)).below blq) (by decide) (gap_fresh HP.out blq arq)).mono ?_
 rintro e w6 ⟨m,rfl,hm,hb6⟩
 have HM:=Lib.hid hm;clear hm
 have HF6:=fgo w6 HF5
 have hz6:=HF6.out.1
 have hl6_0:w.heap.size<w6.heap.size:=(by omega)
 have hl6_1:w.heap.size+1<w6.heap.size:=(by omega)
 have hl6_2:w.heap.size+1+1<w6.heap.size:=(by omega)
 have hx6_0:w3.heap.size<w6.heap.size:=(by omega)
 obtain⟨_,_,_,_,_,_,_,_,_,_,_,_,-⟩:=HF6.out.alls 0 12
 obtain⟨_,_,_,-⟩:=HF6.out.falls 9 3
 have HMZ:=Lib.hid (show IsQ (Gp P w.heap.size 3) 153 _ m (((q.floor:Int):Rat)+1)from HM.out)
 go_wp2_with fail
 refine hKc.out _ _ ?_ (fun hHeld=>?_)
 focus ((try dsimp only);exact(HF6.out.go blq).all 0 12)
 clear hKc Kc
 refine nw ?_
 refine OrdL.st 4 fun Kc hKc=>?_
 refine nv ?_
 go_simp
 refine(q_Against (P:=Gp P w.heap.size 3) (K:=153) (HMZ.out.below blq) ((HY.out.wide (by decide)).below blq) (by decide) (gap_fresh HP.out blq arq) HS.out).mono ?_
 rintro e w7 ⟨rfl,hb7⟩
 have HF7:=fgo w7 HF6
 have hz7:=HF7.out.1
 have hl7_0:w.heap.size<w7.heap.size:=(by omega)
 have hl7_1:w.heap.size+1<w7.heap.size:=(by omega)
 have hl7_2:w.heap.size+1+1<w7.heap.size:=(by omega)
 have hx7_0:w3.heap.size<w7.heap.size:=(by omega)
 obtain⟨_,_,_,_,_,_,_,_,_,_,_,_,-⟩:=HF7.out.alls 0 12
 obtain⟨_,_,_,-⟩:=HF7.out.falls 9 3
 go_wp2_with fail
 refine hKc.out _ _ ?_ (fun hHeld=>?_)
 focus ((try dsimp only);exact(HF7.out.go blq).all 0 12)
 clear hKc Kc
 refine nw ?_
 refine OrdL.tk 5 (some 36) ?_
 refine nw ?_
 refine OrdL.done (by kernel_rfl) ?_ _
 go_wp2_with fail
 refine OrdL.begin_ (S:=fun W=>W.cell? ⟨w3.heap.size,0,none⟩=some (.bool l.b)∧W.cell? ⟨w3.heap.size,1,none⟩=some (.slice l.nA l.nn l.nc)∧W.cell? ⟨w3.heap.size,2,none⟩=some (.slice l.dA l.dn l.dc)∧W.cell? ⟨w.heap.size,0,none⟩=some (.bool x.b)∧W.cell? ⟨w.heap.size,1,none⟩=some (.slice x.nA x.nn x.nc)∧W.cell? ⟨w.heap.size,2,none⟩=some (.slice x.dA x.dn x.dc)∧W.cell? ⟨w.heap.size+1,0,none⟩=some (.bool y.b)∧W.cell? ⟨w.heap.size+1,1,none⟩=some (.slice y.nA y.nn y.nc)∧W.cell? ⟨w.heap.size+1,2,none⟩=some (.slice y.dA y.dn y.dc)∧W.cell? ⟨w.heap.size+1+1,0,none⟩=some (.bool false)∧W.cell? ⟨w.heap.size+1+1,1,none⟩=some (.slice none 0 0)∧W.cell? ⟨w.heap.size+1+1,2,none⟩=some (.slice none 0 0)) [] [3] (by kernel_rfl) ?_ (fun hHeld=>?_)
 focus ((try dsimp only);exact(HF7.out.go blq).all 0 12)
 refine OrdL.tk 0 (some 37) ?_
 refine nw ?_
 refine OrdL.st 1 fun Kc hKc=>?_
 refine nv ?_
 go_simp
 refine(q_Of (P:=Gp P w.heap.size 3) 1 (by decide) (by decide) (gap_fresh HP.out blq arq)).mono ?_
 rintro e w8 ⟨v1,rfl,hv1,hb8⟩
 have HV1:=Lib.hid hv1;clear hv1
 have HF8:=fgo w8 HF7
 have hz8:=HF8.out.1
 have hl8_0:w.heap.size<w8.heap.size:=(by omega)
 have hl8_1:w.heap.size+1<w8.heap.size:=(by omega)
 have hl8_2:w.heap.size+1+1<w8.heap.size:=(by omega)
 have hx8_0:w3.heap.size<w8.heap.size:=(by omega)
 obtain⟨_,_,_,_,_,_,_,_,_,_,_,_,-⟩:=HF8.out.alls 0 12
 obtain⟨_,_,_,-⟩:=HF8.out.falls 9 3
 go_wp2_with fail
 refine hKc.out _ _ ?_ (fun hHeld=>?_)
 focus ((try dsimp only);exact(HF8.out.go blq).all 0 12)
 clear hKc Kc
 refine nw ?_
 refine OrdL.st 2 fun Kc hKc=>?_
 refine nv ?_
 go_simp
 refine(q_Plus (P:=Gp P w.heap.size 3) (K:=76) (HL.out.below blq) ((HV1.out.wide (by decide)).below blq) (by decide) (gap_fresh HP.out blq arq)).mono ?_
 rintro e w9 ⟨r,rfl,hr,hb9⟩
 have HR:=Lib.hid hr;clear hr
 have HF9:=fgo w9 HF8
 have hz9:=HF9.out.1
 have hl9_0:w.heap.size<w9.heap.size:=(by omega)
 have hl9_1:w.heap.size+1<w9.heap.size:=(by omega)
 have hl9_2:w.heap.size+1+1<w9.heap.size:=(by omega)
 have hx9_0:w3.heap.size<w9.heap.size:=(by omega)
 obtain⟨_,_,_,_,_,_,_,_,_,q9_9,q9_10,q9_11,-⟩:=HF9.out.alls 0 12
 obtain⟨_,_,_,-⟩:=HF9.out.falls 9 3
 have HRZ:=Lib.hid (show IsQ (Gp P w.heap.size 3) 153 _ r (((q.floor:Int):Rat)+1)from HR.out)
 go_wp2_with fail
 refine hKc.out _ _ ?_ (fun hHeld=>?_)
 focus ((try dsimp only);exact(HF9.out.go blq).all 0 12)
 clear hKc Kc
 refine nw ?_
 refine OrdL.last (i:=3) rfl (by decide) (by decide) (by kernel_rfl) (fun Kc hKc=>?_)
 refine nv ?_
 go_simp
 refine hKc.out _ _ ?_
 clear hKc Kc
 refine nw ?_
 refine OrdL.done (by kernel_rfl) ?_ _
 have HRT:=Lib.hid (show IsQ (Gp P w.heap.size 3) 75 _ r (simpF (n+1) q p)from (by rw [HE.out];exact IsQ.tight HRZ.out (by have:=HBD.out.1;rw [HE.out]at this;exact Nat.lt_of_le_of_lt this HYT.out.1) (by have:=HBD.out.2;rw [HE.out]at this;exact Nat.lt_of_le_of_lt this HYT.out.2)))
 go_wp2_with fail
 refine bodyPost_ret (v:=.agg #[.bool r.b,.slice r.nA r.nn r.nc,.slice r.dA r.dn r.dc]) (by simp [results,Tryz.results53,go_sem,q9_9,q9_10,q9_11]) rfl ⟨r,rfl,IsQ.ungap (s:=w.heap.size) (n:=3) ?_,blq⟩
 · exact((HRT.out.put _ arq arq).put _ arq arq).put _ arq arq
theorem qsimp_s(n:Nat)(P:Nat→Prop)(w:World)(x y:QV)(q p:Rat)(hx:IsQ P 75 w x q)(hy:IsQ P 75 w y p)(hq:0<q)(hp:q≤p)(hn:q.den+p.den≤n+1)(hP:∀k,w.heap.size≤k→P k)(hi:¬q.den=1)(hf:¬q.floor<p.floor)(ih:SimpSaid' n) :
 Calls Tryz.prog 53 #[.agg #[.bool x.b,.slice x.nA x.nn x.nc,.slice x.dA x.dn x.dc],.agg #[.bool y.b,.slice y.nA y.nn y.nc,.slice y.dA y.dn y.dc]] w fun e w'=>∃r:QV,e=.returned (.agg #[.bool r.b,.slice r.nA r.nn r.nc,.slice r.dA r.dn r.dc])∧IsQ P 75 w' r (simpF (n+1) q p)∧Below w.heap.size w w':=by
 have HBD:=Lib.hid (simp_bd hq hp hn)
 have HSX:=Lib.hid (Int.sign_eq_one_of_pos (num_pos.2 hq))
 have HSY:=Lib.hid (Int.sign_eq_one_of_pos (num_pos.2 (show 0<p by grind)))
 have HX:=Lib.hid (hx.gap 3)
 have HY:=Lib.hid (hy.gap 3)
 have HYT:=Lib.hid (And.intro hy.bdn hy.bdd)
 have HP:=Lib.hid hP
 have HI:=Lib.hid (floor_nint hi)
 have HIH:=Lib.hid ih
 obtain⟨sg,hsg,hsg0⟩:∃z,(((q.floor:Int):Rat)+1-p).num.sign=z∧0<z:=⟨_,rfl,by have:=floor_le_iff (q:=q) (p:=p);omega⟩
 have HS:=Lib.hid hsg
 clear hsg
 have HE:=Lib.hid (show simpF (n+1) q p=((q.floor:Int):Rat)+1/simpF n (1/(p-(q.floor:Rat))) (1/(q-(q.floor:Rat)))from by rw [simpF];exact(if_neg hi).trans (if_neg hf))
 obtain⟨a1,a2,a3⟩:=simp_sub hq hi Rat.le_refl (by omega)
 obtain⟨b1,b2,b3⟩:=simp_sub hq hi hp hf
 obtain⟨k1,k2⟩:=sub_parts q q.floor
 obtain⟨d1,d2⟩:=sub_parts p q.floor
 obtain⟨f1,f2⟩:=inv_parts a1
 obtain⟨g1,g2⟩:=inv_parts b1
 have HNZ1:=Lib.hid (show p-(q.floor:Rat)≠0 from fun h=>by rw [h]at b3;exact absurd b3 Rat.lt_irrefl)
 have HNZ2:=Lib.hid (show q-(q.floor:Rat)≠0 from fun h=>by rw [h]at a3;exact absurd a3 Rat.lt_irrefl)
 have HT1:=Lib.hid (show(1/(p-(q.floor:Rat))).num.natAbs<10000^75∧(1/(p-(q.floor:Rat))).den<10000^75 from⟨Nat.lt_of_le_of_lt (show _≤p.den by omega) hy.bdd,Nat.lt_of_le_of_lt (show _≤p.den by omega) hy.bdd⟩)
 have HT2:=Lib.hid (show(1/(q-(q.floor:Rat))).num.natAbs<10000^75∧(1/(q-(q.floor:Rat))).den<10000^75 from⟨Nat.lt_of_le_of_lt (show _≤q.den by omega) hx.bdd,Nat.lt_of_le_of_lt (show _≤q.den by omega) hx.bdd⟩)
 have hr1:=inv_pos b3
 have hr2:1/(p-(q.floor:Rat))≤1/(q-(q.floor:Rat)):=inv_le a3 (by grind)
 have hr3:(1/(p-(q.floor:Rat))).den+(1/(q-(q.floor:Rat))).den≤n:=by omega
 have HR1:=Lib.hid hr1
 have HR2:=Lib.hid hr2
 have HR3:=Lib.hid hr3
 have HNZ3:=Lib.hid (show simpF n (1/(p-(q.floor:Rat))) (1/(q-(q.floor:Rat)))≠0 from fun h=>by have h9:=(simp_spec n _ _ hr1 hr2 hr3).1;rw [h]at h9;grind)
 clear a1 a2 a3 b1 b2 b3 k1 k2 d1 d2 f1 f2 g1 g2 hr1 hr2 hr3 hi hf ih
 clear hx hy hP hq hp hn
 have HF0:=Lib.hid (show Fr [(w.heap.size,0,(.bool x.b)),(w.heap.size,1,(.slice x.nA x.nn x.nc)),(w.heap.size,2,(.slice x.dA x.dn x.dc)),(w.heap.size+1,0,(.bool y.b)),(w.heap.size+1,1,(.slice y.nA y.nn y.nc)),(w.heap.size+1,2,(.slice y.dA y.dn y.dc)),(w.heap.size+1+1,0,(.bool false)),(w.heap.size+1+1,1,(.slice none 0 0)),(w.heap.size+1+1,2,(.slice none 0 0))] (w.heap.size+1+1+1) (((w.alloc (.cells #[.bool x.b,.slice x.nA x.nn x.nc,.slice x.dA x.dn x.dc] 60)).alloc (.cells #[.bool y.b,.slice y.nA y.nn y.nc,.slice y.dA y.dn y.dc] 60)).alloc (.cells #[.bool false,.slice none 0 0,.slice none 0 0] 60))from frq)
 go_enter Tryz.func53,Tryz.ntmps53
 go_wp2_with fail
 refine(q_Sign' (K:=75) (HX.out.below blq) (by decide) HSX.out).mono ?_
 rintro e w1 ⟨rfl,hb1⟩
 have HF1:=fgo w1 HF0
 have hz1:=HF1.out.1
 obtain⟨hl1_0,hl1_1,hl1_2⟩:=lt3 hz1
 obtain⟨_,_,_,_,_,_,_,_,_,-⟩:=HF1.out.alls 0 9
 obtain⟨_,_,_,-⟩:=HF1.out.falls 6 3
 go_wp2_with fail
 refine(q_Sign' (K:=75) (HY.out.below blq) (by decide) HSY.out).mono ?_
 rintro e w2 ⟨rfl,hb2⟩
 have HF2:=fgo w2 HF1
 have hz2:=HF2.out.1
 obtain⟨hl2_0,hl2_1,hl2_2⟩:=lt3 hz2
 obtain⟨_,_,_,_,_,_,_,_,_,-⟩:=HF2.out.alls 0 9
 obtain⟨_,_,_,-⟩:=HF2.out.falls 6 3
 go_wp2_with fail
 refine(q_Down (P:=Gp P w.heap.size 3) (HX.out.below blq) (by decide) (gap_fresh HP.out blq arq)).mono ?_
 rintro e w3 ⟨l,rfl,hl,hb3⟩
 have HL:=Lib.hid hl;clear hl
 have HF3:=fgo w3 HF2
 have hz3:=HF3.out.1
 obtain⟨hl3_0,hl3_1,hl3_2⟩:=lt3 hz3
 obtain⟨_,_,_,_,_,_,_,_,_,-⟩:=HF3.out.alls 0 9
 obtain⟨_,_,_,-⟩:=HF3.out.falls 6 3
 have HLZ:=Lib.hid (show IsQ (Gp P w.heap.size 3) 76 _ l ((q.floor:Int):Rat)from HL.out)
 have HFb3:=Lib.hid (HF3.out.new3 (.bool l.b) (.slice l.nA l.nn l.nc) (.slice l.dA l.dn l.dc) 60)
 go_wp2_with fail
 refine(q_Against (P:=Gp P w.heap.size 3) (K:=76) (HL.out.below blq) ((HX.out.wide (by decide)).below blq) (by decide) (gap_fresh HP.out blq arq) HI.out).mono ?_
 rintro e w4 ⟨rfl,hb4⟩
 have HF4:=fgo w4 HFb3
 have hz4:=HF4.out.1
 have hl4_0:w.heap.size<w4.heap.size:=(by omega)
 have hl4_1:w.heap.size+1<w4.heap.size:=(by omega)
 have hl4_2:w.heap.size+1+1<w4.heap.size:=(by omega)
 have hx4_0:w3.heap.size<w4.heap.size:=(by omega)
 obtain⟨_,_,_,_,_,_,_,_,_,_,_,_,-⟩:=HF4.out.alls 0 12
 obtain⟨_,_,_,-⟩:=HF4.out.falls 9 3
 go_wp2_with fail
 refine OrdL.begin_ (S:=fun W=>W.cell? ⟨w3.heap.size,0,none⟩=some (.bool l.b)∧W.cell? ⟨w3.heap.size,1,none⟩=some (.slice l.nA l.nn l.nc)∧W.cell? ⟨w3.heap.size,2,none⟩=some (.slice l.dA l.dn l.dc)∧W.cell? ⟨w.heap.size,0,none⟩=some (.bool x.b)∧W.cell? ⟨w.heap.size,1,none⟩=some (.slice x.nA x.nn x.nc)∧W.cell? ⟨w.heap.size,2,none⟩=some (.slice x.dA x.dn x.dc)∧W.cell? ⟨w.heap.size+1,0,none⟩=some (.bool y.b)∧W.cell? ⟨w.heap.size+1,1,none⟩=some (.slice y.nA y.nn y.nc)∧W.cell? ⟨w.heap.size+1,2,none⟩=some (.slice y.dA y.dn y.dc)∧W.cell? ⟨w.heap.size+1+1,0,none⟩=some (.bool false)∧W.cell? ⟨w.heap.size+1+1,1,none⟩=some (.slice none 0 0)∧W.cell? ⟨w.heap.size+1+1,2,none⟩=some (.slice none 0 0)) [] [] (by kernel_rfl) ?_ (fun hHeld=>?_)
 focus ((try dsimp only);exact(HF4.out.go blq).all 0 12)
 refine OrdL.tk 0 (some 31) ?_
 refine nw ?_
 refine OrdL.tk 3 (some 34) ?_
 refine nw ?_
 refine OrdL.st 1 fun Kc hKc=>?_
 refine nv ?_
 go_simp
 refine(q_Of (P:=Gp P w.heap.size 3) 1 (by decide) (by decide) (gap_fresh HP.out blq arq)).mono ?_
 rintro e w5 ⟨u1,rfl,hu1,hb5⟩
 have HU1:=Lib.hid hu1;clear hu1
 have HF5:=fgo w5 HF4
 have hz5:=HF5.out.1
 have hl5_0:w.heap.size<w5.heap.size:=(by omega)
 have hl5_1:w.heap.size+1<w5.heap.size:=(by omega)
 have hl5_2:w.heap.size+1+1<w5.heap.size:=(by omega)
 have hx5_0:w3.heap.size<w5.heap.size:=(by omega)
 obtain⟨_,_,_,_,_,_,_,_,_,_,_,_,-⟩:=HF5.out.alls 0 12
 obtain⟨_,_,_,-⟩:=HF5.out.falls 9 3
 go_wp2_with fail
 refine hKc.out _ _ ?_ (fun hHeld=>?_)
 focus ((try dsimp only);exact(HF5.out.go blq).all 0 12)
 clear hKc Kc
 refine nw ?_
 refine OrdL.st 2 fun Kc hKc=>?_
 refine nv ?_
 go_simp
 refine(q_Plus (P:=Gp P w.heap.size 3) (K:=76) (HL.out.below blq) ((HU1.out.wide (by decide)).below blq) (by decide) (gap_fresh HP.out blq arq)).mono ?_
 rintro e w6 ⟨m,rfl,hm,hb6⟩
 have HM:=Lib.hid hm;clear hm
 have HF6:=fgo w6 HF5
 have hz6:=HF6.out.1
 have hl6_0:w.heap.size<w6.heap.size:=(by omega)
 have hl6_1:w.heap.size+1<w6.heap.size:=(by omega)
 have hl6_2:w.heap.size+1+1<w6.heap.size:=(by omega)
 have hx6_0:w3.heap.size<w6.heap.size:=(by omega)
 obtain⟨_,_,_,_,_,_,_,_,_,_,_,_,-⟩:=HF6.out.alls 0 12
 obtain⟨_,_,_,-⟩:=HF6.out.falls 9 3
 have HMZ:=Lib.hid (show IsQ (Gp P w.heap.size 3) 153 _ m (((q.floor:Int):Rat)+1)from HM.out)
 go_wp2_with fail
 refine hKc.out _ _ ?_ (fun hHeld=>?_)
 focus ((try dsimp only);exact(HF6.out.go blq).all 0 12)
 clear hKc Kc
 refine nw ?_
 refine OrdL.st 4 fun Kc hKc=>?_
 refine nv ?_
 go_simp
 refine(q_Against (P:=Gp P w.heap.size 3) (K:=153) (HMZ.out.below blq) ((HY.out.wide (by decide)).below blq) (by decide) (gap_fresh HP.out blq arq) HS.out).mono ?_
 rintro e w7 ⟨rfl,hb7⟩
 have HF7:=fgo w7 HF6
 have hz7:=HF7.out.1
 have hl7_0:w.heap.size<w7.heap.size:=(by omega)
 have hl7_1:w.heap.size+1<w7.heap.size:=(by omega)
 have hl7_2:w.heap.size+1+1<w7.heap.size:=(by omega)
 have hx7_0:w3.heap.size<w7.heap.size:=(by omega)
 obtain⟨_,_,_,_,_,_,_,_,_,_,_,_,-⟩:=HF7.out.alls 0 12
 obtain⟨_,_,_,-⟩:=HF7.out.falls 9 3
 go_wp2_with fail
 refine hKc.out _ _ ?_ (fun hHeld=>?_)
 focus ((try dsimp only);exact(HF7.out.go blq).all 0 12)
 clear hKc Kc
 refine nw ?_
 refine OrdL.tk 5 (some 36) ?_
 refine nw ?_
 refine OrdL.done (by kernel_rfl) ?_ _
 go_wp2_with fail
 refine OrdL.begin_ (S:=fun W=>W.cell? ⟨w3.heap.size,0,none⟩=some (.bool l.b)∧W.cell? ⟨w3.heap.size,1,none⟩=some (.slice l.nA l.nn l.nc)∧W.cell? ⟨w3.heap.size,2,none⟩=some (.slice l.dA l.dn l.dc)∧W.cell? ⟨w.heap.size,0,none⟩=some (.bool x.b)∧W.cell? ⟨w.heap.size,1,none⟩=some (.slice x.nA x.nn x.nc)∧W.cell? ⟨w.heap.size,2,none⟩=some (.slice x.dA x.dn x.dc)∧W.cell? ⟨w.heap.size+1,0,none⟩=some (.bool y.b)∧W.cell? ⟨w.heap.size+1,1,none⟩=some (.slice y.nA y.nn y.nc)∧W.cell? ⟨w.heap.size+1,2,none⟩=some (.slice y.dA y.dn y.dc)∧W.cell? ⟨w.heap.size+1+1,0,none⟩=some (.bool false)∧W.cell? ⟨w.heap.size+1+1,1,none⟩=some (.slice none 0 0)∧W.cell? ⟨w.heap.size+1+1,2,none⟩=some (.slice none 0 0)) [] [15] (by kernel_rfl) ?_ (fun hHeld=>?_)
 focus ((try dsimp only);exact(HF7.out.go blq).all 0 12)
 refine OrdL.tk 0 (some 40) ?_
 refine nw ?_
 refine OrdL.tk 3 (some 43) ?_
 refine nw ?_
 refine OrdL.tk 4 (some 44) ?_
 refine nw ?_
 refine OrdL.tk 8 (some 48) ?_
 refine nw ?_
 refine OrdL.tk 9 (some 49) ?_
 refine nw ?_
 refine OrdL.st 1 fun Kc hKc=>?_
 refine nv ?_
 go_simp
 refine(q_Of (P:=Gp P w.heap.size 3) 1 (by decide) (by decide) (gap_fresh HP.out blq arq)).mono ?_
 rintro e w8 ⟨oa,rfl,hoa,hb8⟩
 have HOA:=Lib.hid hoa;clear hoa
 have HF8:=fgo w8 HF7
 have hz8:=HF8.out.1
 have hl8_0:w.heap.size<w8.heap.size:=(by omega)
 have hl8_1:w.heap.size+1<w8.heap.size:=(by omega)
 have hl8_2:w.heap.size+1+1<w8.heap.size:=(by omega)
 have hx8_0:w3.heap.size<w8.heap.size:=(by omega)
 obtain⟨_,_,_,_,_,_,_,_,_,_,_,_,-⟩:=HF8.out.alls 0 12
 obtain⟨_,_,_,-⟩:=HF8.out.falls 9 3
 go_wp2_with fail
 refine hKc.out _ _ ?_ (fun hHeld=>?_)
 focus ((try dsimp only);exact(HF8.out.go blq).all 0 12)
 clear hKc Kc
 refine nw ?_
 refine OrdL.st 2 fun Kc hKc=>?_
 refine nv ?_
 go_simp
 refine(q_Of (P:=Gp P w.heap.size 3) 1 (by decide) (by decide) (gap_fresh HP.out blq arq)).mono ?_
 rintro e w9 ⟨ob,rfl,hob,hb9⟩
 have HOB:=Lib.hid hob;clear hob
 have HF9:=fgo w9 HF8
 have hz9:=HF9.out.1
 have hl9_0:w.heap.size<w9.heap.size:=(by omega)
 have hl9_1:w.heap.size+1<w9.heap.size:=(by omega)
 have hl9_2:w.heap.size+1+1<w9.heap.size:=(by omega)
 have hx9_0:w3.heap.size<w9.heap.size:=(by omega)
 obtain⟨_,_,_,_,_,_,_,_,_,_,_,_,-⟩:=HF9.out.alls 0 12
 obtain⟨_,_,_,-⟩:=HF9.out.falls 9 3
 go_wp2_with fail
 refine hKc.out _ _ ?_ (fun hHeld=>?_)
 focus ((try dsimp only);exact(HF9.out.go blq).all 0 12)
 clear hKc Kc
 refine nw ?_
 refine OrdL.st 5 fun Kc hKc=>?_
 refine nv ?_
 go_simp
 refine(q_Minus (P:=Gp P w.heap.size 3) (K:=76) ((HY.out.wide (by decide)).below blq) (HL.out.below blq) (by decide) (gap_fresh HP.out blq arq)).mono ?_
 rintro e w10 ⟨d1,rfl,hd1,hb10⟩
 have HD1:=Lib.hid hd1;clear hd1
 have HF10:=fgo w10 HF9
 have hz10:=HF10.out.1
 have hl10_0:w.heap.size<w10.heap.size:=(by omega)
 have hl10_1:w.heap.size+1<w10.heap.size:=(by omega)
 have hl10_2:w.heap.size+1+1<w10.heap.size:=(by omega)
 have hx10_0:w3.heap.size<w10.heap.size:=(by omega)
 obtain⟨_,_,_,_,_,_,_,_,_,_,_,_,-⟩:=HF10.out.alls 0 12
 obtain⟨_,_,_,-⟩:=HF10.out.falls 9 3
 go_wp2_with fail
 refine hKc.out _ _ ?_ (fun hHeld=>?_)
 focus ((try dsimp only);exact(HF10.out.go blq).all 0 12)
 clear hKc Kc
 refine nw ?_
 refine OrdL.st 6 fun Kc hKc=>?_
 refine nv ?_
 go_simp
 refine(q_Over (P:=Gp P w.heap.size 3) (K:=153) ((HOB.out.wide (by decide)).below blq) (HD1.out.below blq) (by decide) (gap_fresh HP.out blq arq) HNZ1.out).mono ?_
 rintro e w11 ⟨e1,rfl,he1,hb11⟩
 have HF11:=fgo w11 HF10
 have hz11:=HF11.out.1
 have hl11_0:w.heap.size<w11.heap.size:=(by omega)
 have hl11_1:w.heap.size+1<w11.heap.size:=(by omega)
 have hl11_2:w.heap.size+1+1<w11.heap.size:=(by omega)
 have hx11_0:w3.heap.size<w11.heap.size:=(by omega)
 obtain⟨_,_,_,_,_,_,_,_,_,_,_,_,-⟩:=HF11.out.alls 0 12
 obtain⟨_,_,_,-⟩:=HF11.out.falls 9 3
 have HE1:=Lib.hid (IsQ.tight he1 HT1.out.1 HT1.out.2)
 clear he1
 go_wp2_with fail
 refine hKc.out _ _ ?_ (fun hHeld=>?_)
 focus ((try dsimp only);exact(HF11.out.go blq).all 0 12)
 clear hKc Kc
 refine nw ?_
 refine OrdL.st 7 fun Kc hKc=>?_
 refine nv ?_
 go_simp
 refine(q_Of (P:=Gp P w.heap.size 3) 1 (by decide) (by decide) (gap_fresh HP.out blq arq)).mono ?_
 rintro e w12 ⟨oc,rfl,hoc,hb12⟩
 have HOC:=Lib.hid hoc;clear hoc
 have HF12:=fgo w12 HF11
 have hz12:=HF12.out.1
 have hl12_0:w.heap.size<w12.heap.size:=(by omega)
 have hl12_1:w.heap.size+1<w12.heap.size:=(by omega)
 have hl12_2:w.heap.size+1+1<w12.heap.size:=(by omega)
 have hx12_0:w3.heap.size<w12.heap.size:=(by omega)
 obtain⟨_,_,_,_,_,_,_,_,_,_,_,_,-⟩:=HF12.out.alls 0 12
 obtain⟨_,_,_,-⟩:=HF12.out.falls 9 3
 go_wp2_with fail
 refine hKc.out _ _ ?_ (fun hHeld=>?_)
 focus ((try dsimp only);exact(HF12.out.go blq).all 0 12)
 clear hKc Kc
 refine nw ?_
 refine OrdL.st 10 fun Kc hKc=>?_
 refine nv ?_
 go_simp
 refine(q_Minus (P:=Gp P w.heap.size 3) (K:=76) ((HX.out.wide (by decide)).below blq) (HL.out.below blq) (by decide) (gap_fresh HP.out blq arq)).mono ?_
 rintro e w13 ⟨d2,rfl,hd2,hb13⟩
 have HD2:=Lib.hid hd2;clear hd2
 have HF13:=fgo w13 HF12
 have hz13:=HF13.out.1
 have hl13_0:w.heap.size<w13.heap.size:=(by omega)
 have hl13_1:w.heap.size+1<w13.heap.size:=(by omega)
 have hl13_2:w.heap.size+1+1<w13.heap.size:=(by omega)
 have hx13_0:w3.heap.size<w13.heap.size:=(by omega)
 obtain⟨_,_,_,_,_,_,_,_,_,_,_,_,-⟩:=HF13.out.alls 0 12
 obtain⟨_,_,_,-⟩:=HF13.out.falls 9 3
 go_wp2_with fail
 refine hKc.out _ _ ?_ (fun hHeld=>?_)
 focus ((try dsimp only);exact(HF13.out.go blq).all 0 12)
 clear hKc Kc
 refine nw ?_
 refine OrdL.st 11 fun Kc hKc=>?_
 refine nv ?_
 go_simp
 refine(q_Over (P:=Gp P w.heap.size 3) (K:=153) ((HOC.out.wide (by decide)).below blq) (HD2.out.below blq) (by decide) (gap_fresh HP.out blq arq) HNZ2.out).mono ?_
 rintro e w14 ⟨e2,rfl,he2,hb14⟩
 have HF14:=fgo w14 HF13
 have hz14:=HF14.out.1
 have hl14_0:w.heap.size<w14.heap.size:=(by omega)
 have hl14_1:w.heap.size+1<w14.heap.size:=(by omega)
 have hl14_2:w.heap.size+1+1<w14.heap.size:=(by omega)
 have hx14_0:w3.heap.size<w14.heap.size:=(by omega)
 obtain⟨_,_,_,_,_,_,_,_,_,_,_,_,-⟩:=HF14.out.alls 0 12
 obtain⟨_,_,_,-⟩:=HF14.out.falls 9 3
 have HE2:=Lib.hid (IsQ.tight he2 HT2.out.1 HT2.out.2)
 clear he2
 go_wp2_with fail
 refine hKc.out _ _ ?_ (fun hHeld=>?_)
 focus ((try dsimp only);exact(HF14.out.go blq).all 0 12)
 clear hKc Kc
 refine nw ?_
 refine OrdL.st 12 fun Kc hKc=>?_
 refine nv ?_
 go_simp
 refine(HIH.out (Gp P w.heap.size 3) _ e1 e2 _ _ (HE1.out.below blq) (HE2.out.below blq) HR1.out HR2.out HR3.out (gap_fresh HP.out blq arq)).mono ?_
 rintro e w15 ⟨g,rfl,hg,hb15⟩
 have HG:=Lib.hid hg;clear hg
 have HF15:=fgo w15 HF14
 have hz15:=HF15.out.1
 have hl15_0:w.heap.size<w15.heap.size:=(by omega)
 have hl15_1:w.heap.size+1<w15.heap.size:=(by omega)
 have hl15_2:w.heap.size+1+1<w15.heap.size:=(by omega)
 have hx15_0:w3.heap.size<w15.heap.size:=(by omega)
 obtain⟨_,_,_,_,_,_,_,_,_,_,_,_,-⟩:=HF15.out.alls 0 12
 obtain⟨_,_,_,-⟩:=HF15.out.falls 9 3
 go_wp2_with fail
 refine hKc.out _ _ ?_ (fun hHeld=>?_)
 focus ((try dsimp only);exact(HF15.out.go blq).all 0 12)
 clear hKc Kc
 refine nw ?_
 refine OrdL.st 13 fun Kc hKc=>?_
 refine nv ?_
 go_simp
 refine(q_Over (P:=Gp P w.heap.size 3) (K:=75) ((HOA.out.wide (by decide)).below blq) (HG.out.below blq) (by decide) (gap_fresh HP.out blq arq) HNZ3.out).mono ?_
 rintro e w16 ⟨v,rfl,hv,hb16⟩
 have HV:=Lib.hid hv;clear hv
 have HF16:=fgo w16 HF15
 have hz16:=HF16.out.1
 have hl16_0:w.heap.size<w16.heap.size:=(by omega)
 have hl16_1:w.heap.size+1<w16.heap.size:=(by omega)
 have hl16_2:w.heap.size+1+1<w16.heap.size:=(by omega)
 have hx16_0:w3.heap.size<w16.heap.size:=(by omega)
 obtain⟨_,_,_,_,_,_,_,_,_,_,_,_,-⟩:=HF16.out.alls 0 12
 obtain⟨_,_,_,-⟩:=HF16.out.falls 9 3
 go_wp2_with fail
 refine hKc.out _ _ ?_ (fun hHeld=>?_)
 focus ((try dsimp only);exact(HF16.out.go blq).all 0 12)
 clear hKc Kc
 refine nw ?_
 refine OrdL.st 14 fun Kc hKc=>?_
 refine nv ?_
 go_simp
 refine(q_Plus (P:=Gp P w.heap.size 3) (K:=150) ((HL.out.wide (by decide)).below blq) (HV.out.below blq) (by decide) (gap_fresh HP.out blq arq)).mono ?_
 rintro e w17 ⟨r,rfl,hr,hb17⟩
 have HR:=Lib.hid hr;clear hr
 have HF17:=fgo w17 HF16
 have hz17:=HF17.out.1
 have hl17_0:w.heap.size<w17.heap.size:=(by omega)
 have hl17_1:w.heap.size+1<w17.heap.size:=(by omega)
 have hl17_2:w.heap.size+1+1<w17.heap.size:=(by omega)
 have hx17_0:w3.heap.size<w17.heap.size:=(by omega)
 obtain⟨_,_,_,_,_,_,_,_,_,q17_9,q17_10,q17_11,-⟩:=HF17.out.alls 0 12
 obtain⟨_,_,_,-⟩:=HF17.out.falls 9 3
 have HRZ:=Lib.hid (show IsQ (Gp P w.heap.size 3) 301 _ r _ from HR.out)
 go_wp2_with fail
 refine hKc.out _ _ ?_ (fun hHeld=>?_)
 focus ((try dsimp only);exact(HF17.out.go blq).all 0 12)
 clear hKc Kc
 refine nw ?_
 refine OrdL.last (i:=15) rfl (by decide) (by decide) (by kernel_rfl) (fun Kc hKc=>?_)
 refine nv ?_
 go_simp
 refine hKc.out _ _ ?_
 clear hKc Kc
 refine nw ?_
 refine OrdL.done (by kernel_rfl) ?_ _
 have HRT:=Lib.hid (show IsQ (Gp P w.heap.size 3) 75 _ r (simpF (n+1) q p)from (by rw [HE.out];exact IsQ.tight HRZ.out (by have:=HBD.out.1;rw [HE.out]at this;exact Nat.lt_of_le_of_lt this HYT.out.1) (by have:=HBD.out.2;rw [HE.out]at this;exact Nat.lt_of_le_of_lt this HYT.out.2)))
 go_wp2_with fail
 refine bodyPost_ret (v:=.agg #[.bool r.b,.slice r.nA r.nn r.nc,.slice r.dA r.dn r.dc]) (by simp [results,Tryz.results53,go_sem,q17_9,q17_10,q17_11]) rfl ⟨r,rfl,IsQ.ungap (s:=w.heap.size) (n:=3) ?_,blq⟩
 · exact((HRT.out.put _ arq arq).put _ arq arq).put _ arq arq
theorem q_simp:∀n,SimpSaid' n:=by
 intro n
 induction n with
 | zero=>intro P w x y q p _ _ _ _ h;have:=q.den_nz;omega
 | succ n ih =>
  intro P w x y q p hx hy hq hp hn hP;by_cases hi:q.den=1
  · exact qsimp_i n P w x y q p hx hy hq hp hn hP hi
  · by_cases hf:q.floor<p.floor
    · exact qsimp_b n P w x y q p hx hy hq hp hn hP hi hf
    · exact qsimp_s n P w x y q p hx hy hq hp hn hP hi hf ih
theorem qsimp_z(P:Nat→Prop)(w:World)(x y:QV)(q p:Rat)(hx:IsQ P 75 w x q)(hy:IsQ P 75 w y p)(hP:∀k,w.heap.size≤k→P k)(h1:q.num.sign≤0)(h2:0≤p.num.sign) :
 Calls Tryz.prog 53 #[.agg #[.bool x.b,.slice x.nA x.nn x.nc,.slice x.dA x.dn x.dc],.agg #[.bool y.b,.slice y.nA y.nn y.nc,.slice y.dA y.dn y.dc]] w fun e w'=>∃r:QV,e=.returned (.agg #[.bool r.b,.slice r.nA r.nn r.nc,.slice r.dA r.dn r.dc])∧IsQ P 75 w' r (0)∧Below w.heap.size w w':=by
 have HX:=Lib.hid (hx.gap 3)
 have HY:=Lib.hid (hy.gap 3)
 have HP:=Lib.hid hP
 obtain⟨sx,hsx,hsx0⟩:∃z,q.num.sign=z∧z≤0:=⟨_,rfl,h1⟩
 have HSX:=Lib.hid hsx
 clear hsx
 obtain⟨sy,hsy,hsy0⟩:∃z,p.num.sign=z∧0≤z:=⟨_,rfl,h2⟩
 have HSY:=Lib.hid hsy
 clear hsy
 clear h1 h2
 clear hx hy hP
 have HF0:=Lib.hid (show Fr [(w.heap.size,0,(.bool x.b)),(w.heap.size,1,(.slice x.nA x.nn x.nc)),(w.heap.size,2,(.slice x.dA x.dn x.dc)),(w.heap.size+1,0,(.bool y.b)),(w.heap.size+1,1,(.slice y.nA y.nn y.nc)),(w.heap.size+1,2,(.slice y.dA y.dn y.dc)),(w.heap.size+1+1,0,(.bool false)),(w.heap.size+1+1,1,(.slice none 0 0)),(w.heap.size+1+1,2,(.slice none 0 0))] (w.heap.size+1+1+1) (((w.alloc (.cells #[.bool x.b,.slice x.nA x.nn x.nc,.slice x.dA x.dn x.dc] 60)).alloc (.cells #[.bool y.b,.slice y.nA y.nn y.nc,.slice y.dA y.dn y.dc] 60)).alloc (.cells #[.bool false,.slice none 0 0,.slice none 0 0] 60))from frq)
 go_enter Tryz.func53,Tryz.ntmps53
 go_wp2_with fail
 refine(q_Sign' (K:=75) (HX.out.below blq) (by decide) HSX.out).mono ?_
 rintro e w1 ⟨rfl,hb1⟩
 have HF1:=fgo w1 HF0
 have hz1:=HF1.out.1
 obtain⟨hl1_0,hl1_1,hl1_2⟩:=lt3 hz1
 obtain⟨_,_,_,_,_,_,_,_,_,-⟩:=HF1.out.alls 0 9
 obtain⟨_,_,_,-⟩:=HF1.out.falls 6 3
 go_wp2_with fail
 refine(q_Sign' (K:=75) (HY.out.below blq) (by decide) HSY.out).mono ?_
 rintro e w2 ⟨rfl,hb2⟩
 have HF2:=fgo w2 HF1
 have hz2:=HF2.out.1
 obtain⟨hl2_0,hl2_1,hl2_2⟩:=lt3 hz2
 obtain⟨_,_,_,_,_,_,_,_,_,-⟩:=HF2.out.alls 0 9
 obtain⟨_,_,_,-⟩:=HF2.out.falls 6 3
 go_wp2_with fail
 refine(q_Of (P:=Gp P w.heap.size 3) 0 (by decide) (by decide) (gap_fresh HP.out blq arq)).mono ?_
 rintro e w3 ⟨r,rfl,hr,hb3⟩
 have HR:=Lib.hid hr;clear hr
 have HF3:=fgo w3 HF2
 have hz3:=HF3.out.1
 obtain⟨hl3_0,hl3_1,hl3_2⟩:=lt3 hz3
 obtain⟨_,_,_,_,_,_,q3_6,q3_7,q3_8,-⟩:=HF3.out.alls 0 9
 obtain⟨_,_,_,-⟩:=HF3.out.falls 6 3
 go_wp2_with fail
 refine bodyPost_ret (v:=.agg #[.bool r.b,.slice r.nA r.nn r.nc,.slice r.dA r.dn r.dc]) (by simp [results,Tryz.results53,go_sem,q3_6,q3_7,q3_8]) rfl ⟨r,rfl,IsQ.ungap (s:=w.heap.size) (n:=3) ?_,blq⟩
 · exact(((show IsQ (Gp P w.heap.size 3) 75 _ r 0 from HR.out.wide (by decide)).put _ arq arq).put _ arq arq).put _ arq arq
theorem qsimp_m(P:Nat→Prop)(w:World)(x y:QV)(q p:Rat)(hx:IsQ P 75 w x q)(hy:IsQ P 75 w y p)(hP:∀k,w.heap.size≤k→P k)(h2:p.num.sign<0)(h3:q≤p)(h4:p<0) :
 Calls Tryz.prog 53 #[.agg #[.bool x.b,.slice x.nA x.nn x.nc,.slice x.dA x.dn x.dc],.agg #[.bool y.b,.slice y.nA y.nn y.nc,.slice y.dA y.dn y.dc]] w fun e w'=>∃r:QV,e=.returned (.agg #[.bool r.b,.slice r.nA r.nn r.nc,.slice r.dA r.dn r.dc])∧IsQ P 75 w' r (-simpQ (-p) (-q))∧Below w.heap.size w w':=by
 have HX:=Lib.hid (hx.gap 3)
 have HY:=Lib.hid (hy.gap 3)
 have HP:=Lib.hid hP
 obtain⟨sx,hsx,hsx0⟩:∃z,q.num.sign=z∧z≤0:=⟨_,rfl,sign_np (by grind)⟩
 have HSX:=Lib.hid hsx
 clear hsx
 obtain⟨sy,hsy,hsy0⟩:∃z,p.num.sign=z∧z<0:=⟨_,rfl,h2⟩
 have HSY:=Lib.hid hsy
 clear hsy
 have HR1:=Lib.hid (show 0< -p from by grind)
 have HR2:=Lib.hid (show -p≤ -q from by grind)
 clear h2 h3 h4
 clear hx hy hP
 have HF0:=Lib.hid (show Fr [(w.heap.size,0,(.bool x.b)),(w.heap.size,1,(.slice x.nA x.nn x.nc)),(w.heap.size,2,(.slice x.dA x.dn x.dc)),(w.heap.size+1,0,(.bool y.b)),(w.heap.size+1,1,(.slice y.nA y.nn y.nc)),(w.heap.size+1,2,(.slice y.dA y.dn y.dc)),(w.heap.size+1+1,0,(.bool false)),(w.heap.size+1+1,1,(.slice none 0 0)),(w.heap.size+1+1,2,(.slice none 0 0))] (w.heap.size+1+1+1) (((w.alloc (.cells #[.bool x.b,.slice x.nA x.nn x.nc,.slice x.dA x.dn x.dc] 60)).alloc (.cells #[.bool y.b,.slice y.nA y.nn y.nc,.slice y.dA y.dn y.dc] 60)).alloc (.cells #[.bool false,.slice none 0 0,.slice none 0 0] 60))from frq)
 go_enter Tryz.func53,Tryz.ntmps53
 go_wp2_with fail
 refine(q_Sign' (K:=75) (HX.out.below blq) (by decide) HSX.out).mono ?_
 rintro e w1 ⟨rfl,hb1⟩
 have HF1:=fgo w1 HF0
 have hz1:=HF1.out.1
 obtain⟨hl1_0,hl1_1,hl1_2⟩:=lt3 hz1
 obtain⟨_,_,_,_,_,_,_,_,_,-⟩:=HF1.out.alls 0 9
 obtain⟨_,_,_,-⟩:=HF1.out.falls 6 3
 go_wp2_with fail
 refine(q_Sign' (K:=75) (HY.out.below blq) (by decide) HSY.out).mono ?_
 rintro e w2 ⟨rfl,hb2⟩
 have HF2:=fgo w2 HF1
 have hz2:=HF2.out.1
 obtain⟨hl2_0,hl2_1,hl2_2⟩:=lt3 hz2
 obtain⟨_,_,_,_,_,_,_,_,_,-⟩:=HF2.out.alls 0 9
 obtain⟨_,_,_,-⟩:=HF2.out.falls 6 3
 go_wp2_with fail
 refine(q_Sign' (K:=75) (HY.out.below blq) (by decide) HSY.out).mono ?_
 rintro e w3 ⟨rfl,hb3⟩
 have HF3:=fgo w3 HF2
 have hz3:=HF3.out.1
 obtain⟨hl3_0,hl3_1,hl3_2⟩:=lt3 hz3
 obtain⟨_,_,_,_,_,_,_,_,_,-⟩:=HF3.out.alls 0 9
 obtain⟨_,_,_,-⟩:=HF3.out.falls 6 3
 go_wp2_with fail
 refine OrdL.begin_ (S:=fun W=>W.cell? ⟨w.heap.size,0,none⟩=some (.bool x.b)∧W.cell? ⟨w.heap.size,1,none⟩=some (.slice x.nA x.nn x.nc)∧W.cell? ⟨w.heap.size,2,none⟩=some (.slice x.dA x.dn x.dc)∧W.cell? ⟨w.heap.size+1,0,none⟩=some (.bool y.b)∧W.cell? ⟨w.heap.size+1,1,none⟩=some (.slice y.nA y.nn y.nc)∧W.cell? ⟨w.heap.size+1,2,none⟩=some (.slice y.dA y.dn y.dc)∧W.cell? ⟨w.heap.size+1+1,0,none⟩=some (.bool false)∧W.cell? ⟨w.heap.size+1+1,1,none⟩=some (.slice none 0 0)∧W.cell? ⟨w.heap.size+1+1,2,none⟩=some (.slice none 0 0)) [] [6] (by kernel_rfl) ?_ (fun hHeld=>?_)
 focus ((try dsimp only);exact(HF3.out.go blq).all 0 9)
 refine OrdL.tk 0 (some 18) ?_
 refine nw ?_
 refine OrdL.tk 2 (some 20) ?_
 refine nw ?_
 refine OrdL.st 1 fun Kc hKc=>?_
 refine nv ?_
 go_simp
 refine(q_Opposite (P:=Gp P w.heap.size 3) (K:=75) (HY.out.below blq) (by decide) (gap_fresh HP.out blq arq)).mono ?_
 rintro e w4 ⟨ny,rfl,hny,hb4⟩
 have HNY:=Lib.hid hny;clear hny
 have HF4:=fgo w4 HF3
 have hz4:=HF4.out.1
 obtain⟨hl4_0,hl4_1,hl4_2⟩:=lt3 hz4
 obtain⟨_,_,_,_,_,_,_,_,_,-⟩:=HF4.out.alls 0 9
 obtain⟨_,_,_,-⟩:=HF4.out.falls 6 3
 go_wp2_with fail
 refine hKc.out _ _ ?_ (fun hHeld=>?_)
 focus ((try dsimp only);exact(HF4.out.go blq).all 0 9)
 clear hKc Kc
 refine nw ?_
 refine OrdL.st 3 fun Kc hKc=>?_
 refine nv ?_
 go_simp
 refine(q_Opposite (P:=Gp P w.heap.size 3) (K:=75) (HX.out.below blq) (by decide) (gap_fresh HP.out blq arq)).mono ?_
 rintro e w5 ⟨nx,rfl,hnx,hb5⟩
 have HNX:=Lib.hid hnx;clear hnx
 have HF5:=fgo w5 HF4
 have hz5:=HF5.out.1
 obtain⟨hl5_0,hl5_1,hl5_2⟩:=lt3 hz5
 obtain⟨_,_,_,_,_,_,_,_,_,-⟩:=HF5.out.alls 0 9
 obtain⟨_,_,_,-⟩:=HF5.out.falls 6 3
 go_wp2_with fail
 refine hKc.out _ _ ?_ (fun hHeld=>?_)
 focus ((try dsimp only);exact(HF5.out.go blq).all 0 9)
 clear hKc Kc
 refine nw ?_
 refine OrdL.st 4 fun Kc hKc=>?_
 refine nv ?_
 go_simp
 refine(q_simp _ (Gp P w.heap.size 3) _ ny nx _ _ (HNY.out.below blq) (HNX.out.below blq) HR1.out HR2.out (Nat.le_refl _) (gap_fresh HP.out blq arq)).mono ?_
 rintro e w6 ⟨g,rfl,hg,hb6⟩
 have HG:=Lib.hid hg;clear hg
 have HF6:=fgo w6 HF5
 have hz6:=HF6.out.1
 obtain⟨hl6_0,hl6_1,hl6_2⟩:=lt3 hz6
 obtain⟨_,_,_,_,_,_,_,_,_,-⟩:=HF6.out.alls 0 9
 obtain⟨_,_,_,-⟩:=HF6.out.falls 6 3
 go_wp2_with fail
 refine hKc.out _ _ ?_ (fun hHeld=>?_)
 focus ((try dsimp only);exact(HF6.out.go blq).all 0 9)
 clear hKc Kc
 refine nw ?_
 refine OrdL.st 5 fun Kc hKc=>?_
 refine nv ?_
 go_simp
 refine(q_Opposite (P:=Gp P w.heap.size 3) (K:=75) (HG.out.below blq) (by decide) (gap_fresh HP.out blq arq)).mono ?_
 rintro e w7 ⟨r,rfl,hr,hb7⟩
 have HR:=Lib.hid hr;clear hr
 have HF7:=fgo w7 HF6
 have hz7:=HF7.out.1
 obtain⟨hl7_0,hl7_1,hl7_2⟩:=lt3 hz7
 obtain⟨_,_,_,_,_,_,q7_6,q7_7,q7_8,-⟩:=HF7.out.alls 0 9
 obtain⟨_,_,_,-⟩:=HF7.out.falls 6 3
 go_wp2_with fail
 refine hKc.out _ _ ?_ (fun hHeld=>?_)
 focus ((try dsimp only);exact(HF7.out.go blq).all 0 9)
 clear hKc Kc
 refine nw ?_
 refine OrdL.last (i:=6) rfl (by decide) (by decide) (by kernel_rfl) (fun Kc hKc=>?_)
 refine nv ?_
 go_simp
 refine hKc.out _ _ ?_
 clear hKc Kc
 refine nw ?_
 refine OrdL.done (by kernel_rfl) ?_ _
 go_wp2_with fail
 refine bodyPost_ret (v:=.agg #[.bool r.b,.slice r.nA r.nn r.nc,.slice r.dA r.dn r.dc]) (by simp [results,Tryz.results53,go_sem,q7_6,q7_7,q7_8]) rfl ⟨r,rfl,IsQ.ungap (s:=w.heap.size) (n:=3) ?_,blq⟩
 · exact((HR.out.put _ arq arq).put _ arq arq).put _ arq arq
theorem tell_0:((⟨#[48]⟩:ByteArray),(0:Int))=tellB 0:=by rw [tellB,if_pos (by decide +kernel),strF_zero]
theorem q_rSimplest_n(a b:ByteArray)(ha:a.size≤140737488351232)(hb:b.size≤140737488351232)(hq:numB a=none) :
 Calls Tryz.prog 10 #[.string a,.string b] w fun e w'=>e=.returned (.tuple #[.string (rSimplest a b).1,.int .i64 (rSimplest a b).2])∧Below w.heap.size w w':=by
 have HE:=Lib.hid (show rSimplest a b=(nob,1) by rw [rSimplest,hq])
 have HQ:=Lib.hid hq
 clear hq
 have HA:=Lib.hid ha
 have HB:=Lib.hid hb
 clear ha hb
 have HF0:=Lib.hid (show Fr [] (w.heap.size) w from(Fr.nil (by simp)))
 go_enter Tryz.func10,Tryz.ntmps10
 go_wp2_with fail
 refine(q_Read_no HQ.out HA.out).mono ?_
 rintro e w1 ⟨rfl,hb1⟩
 have HF1:=fgo w1 HF0
 have hz1:=HF1.out.1
 have HFb1:=Lib.hid (HF1.out.new3 (.bool false) (.slice none 0 0) (.slice none 0 0) 60)
 go_wp2_with fail
 refine(q_Read_any _ HB.out).mono ?_
 rintro e w2 ⟨r2,b2,rfl,hb2⟩
 have HF2:=fgo w2 HFb1
 have hz2:=HF2.out.1
 have hx2_0:w1.heap.size<w2.heap.size:=(by omega)
 obtain⟨_,_,_,-⟩:=HF2.out.alls 0 3
 have HFb2:=Lib.hid (HF2.out.new3 (.bool r2.b) (.slice r2.nA r2.nn r2.nc) (.slice r2.dA r2.dn r2.dc) 60)
 go_wp2_with fail
 go_ret2
 exact⟨by rw [HE.out];rfl,blq⟩
theorem q_rSimplest_m(a b:ByteArray)(ha:a.size≤140737488351232)(hb:b.size≤140737488351232){q:Rat}(hq:numB a=some q)(hn:numB b=none) :
 Calls Tryz.prog 10 #[.string a,.string b] w fun e w'=>e=.returned (.tuple #[.string (rSimplest a b).1,.int .i64 (rSimplest a b).2])∧Below w.heap.size w w':=by
 have HE:=Lib.hid (show rSimplest a b=(nob,1) by rw [rSimplest,hq,hn])
 have HQ:=Lib.hid hq
 have HN:=Lib.hid hn
 clear hq hn
 have HA:=Lib.hid ha
 have HB:=Lib.hid hb
 clear ha hb
 have HF0:=Lib.hid (show Fr [] (w.heap.size) w from(Fr.nil (by simp)))
 go_enter Tryz.func10,Tryz.ntmps10
 go_wp2_with fail
 refine(q_Read_yes (P:=fun _=>True) HQ.out HA.out (fun _ _=>trivial)).mono ?_
 rintro e w1 ⟨r1,rfl,hr1,hb1⟩
 have HR1:=Lib.hid hr1;clear hr1
 have HF1:=fgo w1 HF0
 have hz1:=HF1.out.1
 have HFb1:=Lib.hid (HF1.out.new3 (.bool r1.b) (.slice r1.nA r1.nn r1.nc) (.slice r1.dA r1.dn r1.dc) 60)
 go_wp2_with fail
 refine(q_Read_no HN.out HB.out).mono ?_
 rintro e w2 ⟨rfl,hb2⟩
 have HF2:=fgo w2 HFb1
 have hz2:=HF2.out.1
 have hx2_0:w1.heap.size<w2.heap.size:=(by omega)
 obtain⟨_,_,_,-⟩:=HF2.out.alls 0 3
 have HFb2:=Lib.hid (HF2.out.new3 (.bool false) (.slice none 0 0) (.slice none 0 0) 60)
 go_wp2_with fail
 go_ret2
 exact⟨by rw [HE.out];rfl,blq⟩
theorem q_rSimplest_a(a b:ByteArray)(ha:a.size≤140737488351232)(hb:b.size≤140737488351232){q p:Rat}(hq:numB a=some q)(hp:numB b=some p)(h0:0<(q-p).num.sign) :
 Calls Tryz.prog 10 #[.string a,.string b] w fun e w'=>e=.returned (.tuple #[.string (rSimplest a b).1,.int .i64 (rSimplest a b).2])∧Below w.heap.size w w':=by
 have HE:=Lib.hid (show rSimplest a b=(nob,3) by rw [rSimplest,hq,hp];exact if_pos h0)
 obtain⟨sS,hsS,hsS0⟩:∃z,(q-p).num.sign=z∧0<z:=⟨_,rfl,h0⟩
 have HSS:=Lib.hid hsS
 clear hsS
 clear h0
 have HQ:=Lib.hid hq
 have HN:=Lib.hid hp
 clear hq hp
 have HA:=Lib.hid ha
 have HB:=Lib.hid hb
 clear ha hb
 have HF0:=Lib.hid (show Fr [] (w.heap.size) w from(Fr.nil (by simp)))
 go_enter Tryz.func10,Tryz.ntmps10
 go_wp2_with fail
 refine(q_Read_yes (P:=fun _=>True) HQ.out HA.out (fun _ _=>trivial)).mono ?_
 rintro e w1 ⟨r1,rfl,hr1,hb1⟩
 have HR1:=Lib.hid hr1;clear hr1
 have HF1:=fgo w1 HF0
 have hz1:=HF1.out.1
 have HFb1:=Lib.hid (HF1.out.new3 (.bool r1.b) (.slice r1.nA r1.nn r1.nc) (.slice r1.dA r1.dn r1.dc) 60)
 go_wp2_with fail
 refine(q_Read_yes (P:=fun _=>True) HN.out HB.out (fun _ _=>trivial)).mono ?_
 rintro e w2 ⟨r2,rfl,hr2,hb2⟩
 have HR2:=Lib.hid hr2;clear hr2
 have HF2:=fgo w2 HFb1
 have hz2:=HF2.out.1
 have hx2_0:w1.heap.size<w2.heap.size:=(by omega)
 obtain⟨_,_,_,-⟩:=HF2.out.alls 0 3
 have HFb2:=Lib.hid (HF2.out.new3 (.bool r2.b) (.slice r2.nA r2.nn r2.nc) (.slice r2.dA r2.dn r2.dc) 60)
 go_wp2_with fail
 refine(q_Against (P:=fun _=>True) (HR1.out.below blq) (HR2.out.below blq) (by decide) (fun _ _=>trivial) HSS.out).mono ?_
 rintro e w3 ⟨rfl,hb3⟩
 have HF3:=fgo w3 HFb2
 have hz3:=HF3.out.1
 have hx3_0:w1.heap.size<w3.heap.size:=(by omega)
 have hx3_1:w2.heap.size<w3.heap.size:=(by omega)
 obtain⟨_,_,_,_,_,_,-⟩:=HF3.out.alls 0 6
 go_wp2_with fail
 go_ret2
 exact⟨by rw [HE.out];rfl,blq⟩
theorem q_rSimplest_z(a b:ByteArray)(ha:a.size≤140737488351232)(hb:b.size≤140737488351232){q p:Rat}(hq:numB a=some q)(hp:numB b=some p)(h0:¬0<(q-p).num.sign)(h1:q.num.sign≤0)(h2:0≤p.num.sign) :
 Calls Tryz.prog 10 #[.string a,.string b] w fun e w'=>e=.returned (.tuple #[.string (rSimplest a b).1,.int .i64 (rSimplest a b).2])∧Below w.heap.size w w':=by
 have HE:=Lib.hid (show rSimplest a b=tellB 0 by rw [rSimplest,hq,hp];exact((if_neg h0).trans (if_pos ⟨h1,h2⟩)).trans tell_0)
 obtain⟨sS,hsS,hsS0⟩:∃z,(q-p).num.sign=z∧z≤0:=⟨_,rfl,by omega⟩
 have HSS:=Lib.hid hsS
 clear hsS
 have HC1:=Lib.hid h1
 have HC2:=Lib.hid h2
 clear h0 h1 h2
 have HQ:=Lib.hid hq
 have HN:=Lib.hid hp
 clear hq hp
 have HA:=Lib.hid ha
 have HB:=Lib.hid hb
 clear ha hb
 have HF0:=Lib.hid (show Fr [] (w.heap.size) w from(Fr.nil (by simp)))
 go_enter Tryz.func10,Tryz.ntmps10
 go_wp2_with fail
 refine(q_Read_yes (P:=fun _=>True) HQ.out HA.out (fun _ _=>trivial)).mono ?_
 rintro e w1 ⟨r1,rfl,hr1,hb1⟩
 have HR1:=Lib.hid hr1;clear hr1
 have HF1:=fgo w1 HF0
 have hz1:=HF1.out.1
 have HFb1:=Lib.hid (HF1.out.new3 (.bool r1.b) (.slice r1.nA r1.nn r1.nc) (.slice r1.dA r1.dn r1.dc) 60)
 go_wp2_with fail
 refine(q_Read_yes (P:=fun _=>True) HN.out HB.out (fun _ _=>trivial)).mono ?_
 rintro e w2 ⟨r2,rfl,hr2,hb2⟩
 have HR2:=Lib.hid hr2;clear hr2
 have HF2:=fgo w2 HFb1
 have hz2:=HF2.out.1
 have hx2_0:w1.heap.size<w2.heap.size:=(by omega)
 obtain⟨_,_,_,-⟩:=HF2.out.alls 0 3
 have HFb2:=Lib.hid (HF2.out.new3 (.bool r2.b) (.slice r2.nA r2.nn r2.nc) (.slice r2.dA r2.dn r2.dc) 60)
 go_wp2_with fail
 refine(q_Against (P:=fun _=>True) (HR1.out.below blq) (HR2.out.below blq) (by decide) (fun _ _=>trivial) HSS.out).mono ?_
 rintro e w3 ⟨rfl,hb3⟩
 have HF3:=fgo w3 HFb2
 have hz3:=HF3.out.1
 have hx3_0:w1.heap.size<w3.heap.size:=(by omega)
 have hx3_1:w2.heap.size<w3.heap.size:=(by omega)
 obtain⟨_,_,_,_,_,_,-⟩:=HF3.out.alls 0 6
 go_wp2_with fail
 refine(qsimp_z (fun _=>True) _ r1 r2 _ _ (HR1.out.below blq) (HR2.out.below blq) (fun _ _=>trivial) HC1.out HC2.out).mono ?_
 rintro e w4 ⟨g,rfl,hg,hb4⟩
 have HG:=Lib.hid hg;clear hg
 have HF4:=fgo w4 HF3
 have hz4:=HF4.out.1
 have hx4_0:w1.heap.size<w4.heap.size:=(by omega)
 have hx4_1:w2.heap.size<w4.heap.size:=(by omega)
 obtain⟨_,_,_,_,_,_,-⟩:=HF4.out.alls 0 6
 go_wp2_with fail
 refine(q_Out (K:=75) (HG.out.below blq) (by decide)).mono ?_
 rintro e w5 ⟨rfl,hb5⟩
 have HF5:=fgo w5 HF4
 have hz5:=HF5.out.1
 have hx5_0:w1.heap.size<w5.heap.size:=(by omega)
 have hx5_1:w2.heap.size<w5.heap.size:=(by omega)
 obtain⟨_,_,_,_,_,_,-⟩:=HF5.out.alls 0 6
 go_wp2_with fail
 go_ret2
 exact⟨by rw [HE.out];rfl,blq⟩
theorem q_rSimplest_l(a b:ByteArray)(ha:a.size≤140737488351232)(hb:b.size≤140737488351232){q p:Rat}(hq:numB a=some q)(hp:numB b=some p)(h0:¬0<(q-p).num.sign)(h2:p.num.sign<0)(h3:q≤p)(h4:p<0) :
 Calls Tryz.prog 10 #[.string a,.string b] w fun e w'=>e=.returned (.tuple #[.string (rSimplest a b).1,.int .i64 (rSimplest a b).2])∧Below w.heap.size w w':=by
 have HE:=Lib.hid (show rSimplest a b=tellB (-simpQ (-p) (-q)) by rw [rSimplest,hq,hp];exact(if_neg h0).trans ((if_neg (fun h=>by omega)).trans (if_pos h2)))
 obtain⟨sS,hsS,hsS0⟩:∃z,(q-p).num.sign=z∧z≤0:=⟨_,rfl,by omega⟩
 have HSS:=Lib.hid hsS
 clear hsS
 have HC1:=Lib.hid h2
 have HC2:=Lib.hid h3
 have HC3:=Lib.hid h4
 clear h0 h2 h3 h4
 have HQ:=Lib.hid hq
 have HN:=Lib.hid hp
 clear hq hp
 have HA:=Lib.hid ha
 have HB:=Lib.hid hb
 clear ha hb
 have HF0:=Lib.hid (show Fr [] (w.heap.size) w from(Fr.nil (by simp)))
 go_enter Tryz.func10,Tryz.ntmps10
 go_wp2_with fail
 refine(q_Read_yes (P:=fun _=>True) HQ.out HA.out (fun _ _=>trivial)).mono ?_
 rintro e w1 ⟨r1,rfl,hr1,hb1⟩
 have HR1:=Lib.hid hr1;clear hr1
 have HF1:=fgo w1 HF0
 have hz1:=HF1.out.1
 have HFb1:=Lib.hid (HF1.out.new3 (.bool r1.b) (.slice r1.nA r1.nn r1.nc) (.slice r1.dA r1.dn r1.dc) 60)
 go_wp2_with fail
 refine(q_Read_yes (P:=fun _=>True) HN.out HB.out (fun _ _=>trivial)).mono ?_
 rintro e w2 ⟨r2,rfl,hr2,hb2⟩
 have HR2:=Lib.hid hr2;clear hr2
 have HF2:=fgo w2 HFb1
 have hz2:=HF2.out.1
 have hx2_0:w1.heap.size<w2.heap.size:=(by omega)
 obtain⟨_,_,_,-⟩:=HF2.out.alls 0 3
 have HFb2:=Lib.hid (HF2.out.new3 (.bool r2.b) (.slice r2.nA r2.nn r2.nc) (.slice r2.dA r2.dn r2.dc) 60)
 go_wp2_with fail
 refine(q_Against (P:=fun _=>True) (HR1.out.below blq) (HR2.out.below blq) (by decide) (fun _ _=>trivial) HSS.out).mono ?_
 rintro e w3 ⟨rfl,hb3⟩
 have HF3:=fgo w3 HFb2
 have hz3:=HF3.out.1
 have hx3_0:w1.heap.size<w3.heap.size:=(by omega)
 have hx3_1:w2.heap.size<w3.heap.size:=(by omega)
 obtain⟨_,_,_,_,_,_,-⟩:=HF3.out.alls 0 6
 go_wp2_with fail
 refine(qsimp_m (fun _=>True) _ r1 r2 _ _ (HR1.out.below blq) (HR2.out.below blq) (fun _ _=>trivial) HC1.out HC2.out HC3.out).mono ?_
 rintro e w4 ⟨g,rfl,hg,hb4⟩
 have HG:=Lib.hid hg;clear hg
 have HF4:=fgo w4 HF3
 have hz4:=HF4.out.1
 have hx4_0:w1.heap.size<w4.heap.size:=(by omega)
 have hx4_1:w2.heap.size<w4.heap.size:=(by omega)
 obtain⟨_,_,_,_,_,_,-⟩:=HF4.out.alls 0 6
 go_wp2_with fail
 refine(q_Out (K:=75) (HG.out.below blq) (by decide)).mono ?_
 rintro e w5 ⟨rfl,hb5⟩
 have HF5:=fgo w5 HF4
 have hz5:=HF5.out.1
 have hx5_0:w1.heap.size<w5.heap.size:=(by omega)
 have hx5_1:w2.heap.size<w5.heap.size:=(by omega)
 obtain⟨_,_,_,_,_,_,-⟩:=HF5.out.alls 0 6
 go_wp2_with fail
 go_ret2
 exact⟨by rw [HE.out];rfl,blq⟩
theorem q_rSimplest_p(a b:ByteArray)(ha:a.size≤140737488351232)(hb:b.size≤140737488351232){q p:Rat}(hq:numB a=some q)(hp:numB b=some p)(h0:¬0<(q-p).num.sign)(h1:0<q.num.sign)(h3:q≤p)(h4:0<q)(h5:0≤p.num.sign) :
 Calls Tryz.prog 10 #[.string a,.string b] w fun e w'=>e=.returned (.tuple #[.string (rSimplest a b).1,.int .i64 (rSimplest a b).2])∧Below w.heap.size w w':=by
 have HE:=Lib.hid (show rSimplest a b=tellB (simpQ q p) by rw [rSimplest,hq,hp];exact(if_neg h0).trans ((if_neg (fun h=>by omega)).trans (if_neg (by omega))))
 obtain⟨sS,hsS,hsS0⟩:∃z,(q-p).num.sign=z∧z≤0:=⟨_,rfl,by omega⟩
 have HSS:=Lib.hid hsS
 clear hsS
 have HC1:=Lib.hid h4
 have HC2:=Lib.hid h3
 clear h0 h1 h3 h4 h5
 have HQ:=Lib.hid hq
 have HN:=Lib.hid hp
 clear hq hp
 have HA:=Lib.hid ha
 have HB:=Lib.hid hb
 clear ha hb
 have HF0:=Lib.hid (show Fr [] (w.heap.size) w from(Fr.nil (by simp)))
 go_enter Tryz.func10,Tryz.ntmps10
 go_wp2_with fail
 refine(q_Read_yes (P:=fun _=>True) HQ.out HA.out (fun _ _=>trivial)).mono ?_
 rintro e w1 ⟨r1,rfl,hr1,hb1⟩
 have HR1:=Lib.hid hr1;clear hr1
 have HF1:=fgo w1 HF0
 have hz1:=HF1.out.1
 have HFb1:=Lib.hid (HF1.out.new3 (.bool r1.b) (.slice r1.nA r1.nn r1.nc) (.slice r1.dA r1.dn r1.dc) 60)
 go_wp2_with fail
 refine(q_Read_yes (P:=fun _=>True) HN.out HB.out (fun _ _=>trivial)).mono ?_
 rintro e w2 ⟨r2,rfl,hr2,hb2⟩
 have HR2:=Lib.hid hr2;clear hr2
 have HF2:=fgo w2 HFb1
 have hz2:=HF2.out.1
 have hx2_0:w1.heap.size<w2.heap.size:=(by omega)
 obtain⟨_,_,_,-⟩:=HF2.out.alls 0 3
 have HFb2:=Lib.hid (HF2.out.new3 (.bool r2.b) (.slice r2.nA r2.nn r2.nc) (.slice r2.dA r2.dn r2.dc) 60)
 go_wp2_with fail
 refine(q_Against (P:=fun _=>True) (HR1.out.below blq) (HR2.out.below blq) (by decide) (fun _ _=>trivial) HSS.out).mono ?_
 rintro e w3 ⟨rfl,hb3⟩
 have HF3:=fgo w3 HFb2
 have hz3:=HF3.out.1
 have hx3_0:w1.heap.size<w3.heap.size:=(by omega)
 have hx3_1:w2.heap.size<w3.heap.size:=(by omega)
 obtain⟨_,_,_,_,_,_,-⟩:=HF3.out.alls 0 6
 go_wp2_with fail
 refine(q_simp _ (fun _=>True) _ r1 r2 _ _ (HR1.out.below blq) (HR2.out.below blq) HC1.out HC2.out (Nat.le_refl _) (fun _ _=>trivial)).mono ?_
 rintro e w4 ⟨g,rfl,hg,hb4⟩
 have HG:=Lib.hid hg;clear hg
 have HF4:=fgo w4 HF3
 have hz4:=HF4.out.1
 have hx4_0:w1.heap.size<w4.heap.size:=(by omega)
 have hx4_1:w2.heap.size<w4.heap.size:=(by omega)
 obtain⟨_,_,_,_,_,_,-⟩:=HF4.out.alls 0 6
 go_wp2_with fail
 refine(q_Out (K:=75) (HG.out.below blq) (by decide)).mono ?_
 rintro e w5 ⟨rfl,hb5⟩
 have HF5:=fgo w5 HF4
 have hz5:=HF5.out.1
 have hx5_0:w1.heap.size<w5.heap.size:=(by omega)
 have hx5_1:w2.heap.size<w5.heap.size:=(by omega)
 obtain⟨_,_,_,_,_,_,-⟩:=HF5.out.alls 0 6
 go_wp2_with fail
 go_ret2
 exact⟨by rw [HE.out];rfl,blq⟩
theorem q_rSimplest(a b:ByteArray)(ha:a.size≤140737488351232)(hb:b.size≤140737488351232) :
 Calls Tryz.prog 10 #[.string a,.string b] w fun e w'=>e=.returned (.tuple #[.string (rSimplest a b).1,.int .i64 (rSimplest a b).2])∧Below w.heap.size w w':=by
 cases hq:numB a with
 | none=>exact q_rSimplest_n a b ha hb hq
 | some q =>
  cases hp:numB b with
  | none=>exact q_rSimplest_m a b ha hb hq hp
  | some p =>
   by_cases h0:0<(q-p).num.sign
   · exact q_rSimplest_a a b ha hb hq hp h0
   · have hle:q≤p:=by
      rcases Rat.le_total (a:=q) (b:=p)with h|h
      · exact h
      · by_cases he:q=p
        · rw [he];exact Rat.le_refl
        · exact absurd (sign_p (q:=q-p) (by grind)) h0
     by_cases h1:q.num.sign≤0
     · by_cases h2:0≤p.num.sign
       · exact q_rSimplest_z a b ha hb hq hp h0 h1 h2
       · refine q_rSimplest_l a b ha hb hq hp h0 (by omega) hle ?_;rcases Rat.le_total (a:=0) (b:=p)with h|h
         · by_cases he:p=0
           · rw [he]at h2;exact absurd (by decide) h2
           · exact absurd (Int.le_of_lt (sign_p (q:=p) (by grind))) h2
         · by_cases he:p=0
           · rw [he]at h2;exact absurd (by decide) h2
           · grind
     · have h4:0<q:=by
        rcases Rat.le_total (a:=q) (b:=0)with h|h
        · exact absurd (sign_np h) h1
        · by_cases he:q=0
          · rw [he]at h1;exact absurd (by decide) h1
          · grind
       exact q_rSimplest_p a b ha hb hq hp h0 (by omega) hle h4 (Int.le_of_lt (sign_p (by grind)))
theorem q_times_0{x y:QV}{q p:Rat}(hx:IsQ (fun _=>True) 75 w x q)(hy:IsQ (fun _=>True) 75 w y p)(hp:p≠0)(h0:q.num.sign<0) :
 Calls Tryz.prog 57 #[.agg #[.bool x.b,.slice x.nA x.nn x.nc,.slice x.dA x.dn x.dc],.agg #[.bool y.b,.slice y.nA y.nn y.nc,.slice y.dA y.dn y.dc]] w fun e w'=>e=.returned (.bool false)∧Below w.heap.size w w':=by
 have HX:=Lib.hid hx
 have HY:=Lib.hid hy
 have HNZ:=Lib.hid hp
 obtain⟨sx,hsx,hsx0⟩:∃z,q.num.sign=z∧z<0:=⟨_,rfl,h0⟩
 have HSX:=Lib.hid hsx
 clear hsx
 clear h0
 clear hx hy hp
 have HF0:=Lib.hid (show Fr [(w.heap.size,0,(.bool x.b)),(w.heap.size,1,(.slice x.nA x.nn x.nc)),(w.heap.size,2,(.slice x.dA x.dn x.dc)),(w.heap.size+1,0,(.bool y.b)),(w.heap.size+1,1,(.slice y.nA y.nn y.nc)),(w.heap.size+1,2,(.slice y.dA y.dn y.dc))] (w.heap.size+1+1) ((w.alloc (.cells #[.bool x.b,.slice x.nA x.nn x.nc,.slice x.dA x.dn x.dc] 60)).alloc (.cells #[.bool y.b,.slice y.nA y.nn y.nc,.slice y.dA y.dn y.dc] 60))from frq)
 go_enter Tryz.func57,Tryz.ntmps57
 go_wp2_with fail
 refine(q_Sign' (K:=75) (HX.out.below blq) (by decide) HSX.out).mono ?_
 rintro e w1 ⟨rfl,hb1⟩
 have HF1:=fgo w1 HF0
 have hz1:=HF1.out.1
 obtain⟨hl1_0,hl1_1⟩:=lt2 hz1
 obtain⟨_,_,_,_,_,_,-⟩:=HF1.out.alls 0 6
 go_wp2_with fail
 go_ret
 exact⟨rfl,blq⟩
theorem q_times_1{x y:QV}{q p:Rat}(hx:IsQ (fun _=>True) 75 w x q)(hy:IsQ (fun _=>True) 75 w y p)(hp:p≠0)(h0:0≤q.num.sign){b:Bool}(hw:decide ((q/p).den=1)=b) :
 Calls Tryz.prog 57 #[.agg #[.bool x.b,.slice x.nA x.nn x.nc,.slice x.dA x.dn x.dc],.agg #[.bool y.b,.slice y.nA y.nn y.nc,.slice y.dA y.dn y.dc]] w fun e w'=>e=.returned (.bool b)∧Below w.heap.size w w':=by
 have HX:=Lib.hid hx
 have HY:=Lib.hid hy
 have HNZ:=Lib.hid hp
 obtain⟨sx,hsx,hsx0⟩:∃z,q.num.sign=z∧0≤z:=⟨_,rfl,h0⟩
 have HSX:=Lib.hid hsx
 clear hsx
 have HW:=Lib.hid hw
 clear h0 hw
 clear hx hy hp
 have HF0:=Lib.hid (show Fr [(w.heap.size,0,(.bool x.b)),(w.heap.size,1,(.slice x.nA x.nn x.nc)),(w.heap.size,2,(.slice x.dA x.dn x.dc)),(w.heap.size+1,0,(.bool y.b)),(w.heap.size+1,1,(.slice y.nA y.nn y.nc)),(w.heap.size+1,2,(.slice y.dA y.dn y.dc))] (w.heap.size+1+1) ((w.alloc (.cells #[.bool x.b,.slice x.nA x.nn x.nc,.slice x.dA x.dn x.dc] 60)).alloc (.cells #[.bool y.b,.slice y.nA y.nn y.nc,.slice y.dA y.dn y.dc] 60))from frq)
 go_enter Tryz.func57,Tryz.ntmps57
 go_wp2_with fail
 refine(q_Sign' (K:=75) (HX.out.below blq) (by decide) HSX.out).mono ?_
 rintro e w1 ⟨rfl,hb1⟩
 have HF1:=fgo w1 HF0
 have hz1:=HF1.out.1
 obtain⟨hl1_0,hl1_1⟩:=lt2 hz1
 obtain⟨_,_,_,_,_,_,-⟩:=HF1.out.alls 0 6
 go_wp2_with fail
 refine(q_Over (P:=fun _=>True) (HX.out.below blq) (HY.out.below blq) (by decide) (fun _ _=>trivial) HNZ.out).mono ?_
 rintro e w2 ⟨r,rfl,hr,hb2⟩
 have HR:=Lib.hid hr;clear hr
 have HF2:=fgo w2 HF1
 have hz2:=HF2.out.1
 obtain⟨hl2_0,hl2_1⟩:=lt2 hz2
 obtain⟨_,_,_,_,_,_,-⟩:=HF2.out.alls 0 6
 go_wp2_with fail
 refine(q_Whole' (K:=75+75) (HR.out.below blq) (by decide) HW.out).mono ?_
 rintro e w3 ⟨rfl,hb3⟩
 have HF3:=fgo w3 HF2
 have hz3:=HF3.out.1
 obtain⟨hl3_0,hl3_1⟩:=lt2 hz3
 obtain⟨_,_,_,_,_,_,-⟩:=HF3.out.alls 0 6
 go_wp2_with fail
 go_ret
 exact⟨rfl,blq⟩
theorem q_times{x y:QV}{q p:Rat}(hx:IsQ (fun _=>True) 75 w x q)(hy:IsQ (fun _=>True) 75 w y p)(hp:p≠0){b:Bool}(hw:decide (0≤q.num.sign∧(q/p).den=1)=b) :
 Calls Tryz.prog 57 #[.agg #[.bool x.b,.slice x.nA x.nn x.nc,.slice x.dA x.dn x.dc],.agg #[.bool y.b,.slice y.nA y.nn y.nc,.slice y.dA y.dn y.dc]] w fun e w'=>e=.returned (.bool b)∧Below w.heap.size w w':=by
 by_cases h0:q.num.sign<0
 · have h1:b=false:=by rw [←hw,decide_eq_false];omega
   rw [h1];exact q_times_0 hx hy hp h0
 · exact q_times_1 hx hy hp (by omega) (by rw [←hw];congr 1;exact propext ⟨fun h=>⟨by omega,h⟩,fun h=>h.2⟩)
theorem q_rMultiple_n(a b:ByteArray)(ha:a.size≤140737488351232)(hb:b.size≤140737488351232)(hq:numB a=none) :
 Calls Tryz.prog 12 #[.string a,.string b] w fun e w'=>e=.returned (.tuple #[.bool (rMultiple a b).1,.int .i64 (rMultiple a b).2])∧Below w.heap.size w w':=by
 have HE:=Lib.hid (show rMultiple a b=(false,1) by rw [rMultiple,hq])
 have HQ:=Lib.hid hq
 clear hq
 have HA:=Lib.hid ha
 have HB:=Lib.hid hb
 clear ha hb
 have HF0:=Lib.hid (show Fr [] (w.heap.size) w from(Fr.nil (by simp)))
 go_enter Tryz.func12,Tryz.ntmps12
 go_wp2_with fail
 refine(q_Read_no HQ.out HA.out).mono ?_
 rintro e w1 ⟨rfl,hb1⟩
 have HF1:=fgo w1 HF0
 have hz1:=HF1.out.1
 have HFb1:=Lib.hid (HF1.out.new3 (.bool false) (.slice none 0 0) (.slice none 0 0) 60)
 go_wp2_with fail
 refine(q_Read_any _ HB.out).mono ?_
 rintro e w2 ⟨r2,b2,rfl,hb2⟩
 have HF2:=fgo w2 HFb1
 have hz2:=HF2.out.1
 have hx2_0:w1.heap.size<w2.heap.size:=(by omega)
 obtain⟨_,_,_,-⟩:=HF2.out.alls 0 3
 have HFb2:=Lib.hid (HF2.out.new3 (.bool r2.b) (.slice r2.nA r2.nn r2.nc) (.slice r2.dA r2.dn r2.dc) 60)
 go_wp2_with fail
 go_ret2
 exact⟨by rw [HE.out];rfl,blq⟩
theorem q_rMultiple_m(a b:ByteArray)(ha:a.size≤140737488351232)(hb:b.size≤140737488351232){q:Rat}(hq:numB a=some q)(hn:numB b=none) :
 Calls Tryz.prog 12 #[.string a,.string b] w fun e w'=>e=.returned (.tuple #[.bool (rMultiple a b).1,.int .i64 (rMultiple a b).2])∧Below w.heap.size w w':=by
 have HE:=Lib.hid (show rMultiple a b=(false,1) by rw [rMultiple,hq,hn])
 have HQ:=Lib.hid hq
 have HN:=Lib.hid hn
 clear hq hn
 have HA:=Lib.hid ha
 have HB:=Lib.hid hb
 clear ha hb
 have HF0:=Lib.hid (show Fr [] (w.heap.size) w from(Fr.nil (by simp)))
 go_enter Tryz.func12,Tryz.ntmps12
 go_wp2_with fail
 refine(q_Read_yes (P:=fun _=>True) HQ.out HA.out (fun _ _=>trivial)).mono ?_
 rintro e w1 ⟨r1,rfl,hr1,hb1⟩
 have HR1:=Lib.hid hr1;clear hr1
 have HF1:=fgo w1 HF0
 have hz1:=HF1.out.1
 have HFb1:=Lib.hid (HF1.out.new3 (.bool r1.b) (.slice r1.nA r1.nn r1.nc) (.slice r1.dA r1.dn r1.dc) 60)
 go_wp2_with fail
 refine(q_Read_no HN.out HB.out).mono ?_
 rintro e w2 ⟨rfl,hb2⟩
 have HF2:=fgo w2 HFb1
 have hz2:=HF2.out.1
 have hx2_0:w1.heap.size<w2.heap.size:=(by omega)
 obtain⟨_,_,_,-⟩:=HF2.out.alls 0 3
 have HFb2:=Lib.hid (HF2.out.new3 (.bool false) (.slice none 0 0) (.slice none 0 0) 60)
 go_wp2_with fail
 go_ret2
 exact⟨by rw [HE.out];rfl,blq⟩
theorem q_rMultiple_a(a b:ByteArray)(ha:a.size≤140737488351232)(hb:b.size≤140737488351232){q p:Rat}(hq:numB a=some q)(hp:numB b=some p)(h0:p.num.sign≤0) :
 Calls Tryz.prog 12 #[.string a,.string b] w fun e w'=>e=.returned (.tuple #[.bool (rMultiple a b).1,.int .i64 (rMultiple a b).2])∧Below w.heap.size w w':=by
 have HE:=Lib.hid (show rMultiple a b=(false,3) by rw [rMultiple,hq,hp];exact if_pos h0)
 obtain⟨sy,hsy,hsy0⟩:∃z,p.num.sign=z∧z≤0:=⟨_,rfl,h0⟩
 have HSY:=Lib.hid hsy
 clear hsy
 clear h0
 have HQ:=Lib.hid hq
 have HN:=Lib.hid hp
 clear hq hp
 have HA:=Lib.hid ha
 have HB:=Lib.hid hb
 clear ha hb
 have HF0:=Lib.hid (show Fr [] (w.heap.size) w from(Fr.nil (by simp)))
 go_enter Tryz.func12,Tryz.ntmps12
 go_wp2_with fail
 refine(q_Read_yes (P:=fun _=>True) HQ.out HA.out (fun _ _=>trivial)).mono ?_
 rintro e w1 ⟨r1,rfl,hr1,hb1⟩
 have HR1:=Lib.hid hr1;clear hr1
 have HF1:=fgo w1 HF0
 have hz1:=HF1.out.1
 have HFb1:=Lib.hid (HF1.out.new3 (.bool r1.b) (.slice r1.nA r1.nn r1.nc) (.slice r1.dA r1.dn r1.dc) 60)
 go_wp2_with fail
 refine(q_Read_yes (P:=fun _=>True) HN.out HB.out (fun _ _=>trivial)).mono ?_
 rintro e w2 ⟨r2,rfl,hr2,hb2⟩
 have HR2:=Lib.hid hr2;clear hr2
 have HF2:=fgo w2 HFb1
 have hz2:=HF2.out.1
 have hx2_0:w1.heap.size<w2.heap.size:=(by omega)
 obtain⟨_,_,_,-⟩:=HF2.out.alls 0 3
 have HFb2:=Lib.hid (HF2.out.new3 (.bool r2.b) (.slice r2.nA r2.nn r2.nc) (.slice r2.dA r2.dn r2.dc) 60)
 go_wp2_with fail
 refine(q_Sign' (K:=75) (HR2.out.below blq) (by decide) HSY.out).mono ?_
 rintro e w3 ⟨rfl,hb3⟩
 have HF3:=fgo w3 HFb2
 have hz3:=HF3.out.1
 have hx3_0:w1.heap.size<w3.heap.size:=(by omega)
 have hx3_1:w2.heap.size<w3.heap.size:=(by omega)
 obtain⟨_,_,_,_,_,_,-⟩:=HF3.out.alls 0 6
 go_wp2_with fail
 go_ret2
 exact⟨by rw [HE.out];rfl,blq⟩
theorem q_rMultiple_y(a b:ByteArray)(ha:a.size≤140737488351232)(hb:b.size≤140737488351232){q p:Rat}(hq:numB a=some q)(hp:numB b=some p)(h0:0<p.num.sign) :
 Calls Tryz.prog 12 #[.string a,.string b] w fun e w'=>e=.returned (.tuple #[.bool (rMultiple a b).1,.int .i64 (rMultiple a b).2])∧Below w.heap.size w w':=by
 have HE:=Lib.hid (show rMultiple a b=(decide (0≤q.num.sign∧(q/p).den=1),0) by rw [rMultiple,hq,hp];exact if_neg (by omega))
 have HNZ:=Lib.hid (show p≠0 from fun e=>by rw [e]at h0;exact absurd h0 (by decide))
 obtain⟨bw,hbw⟩:∃b:Bool,decide (0≤q.num.sign∧(q/p).den=1)=b:=⟨_,rfl⟩
 rw [hbw]at HE
 have HW:=Lib.hid hbw
 obtain⟨sy,hsy,hsy0⟩:∃z,p.num.sign=z∧0<z:=⟨_,rfl,h0⟩
 have HSY:=Lib.hid hsy
 clear hsy
 clear h0 hbw
 have HQ:=Lib.hid hq
 have HN:=Lib.hid hp
 clear hq hp
 have HA:=Lib.hid ha
 have HB:=Lib.hid hb
 clear ha hb
 have HF0:=Lib.hid (show Fr [] (w.heap.size) w from(Fr.nil (by simp)))
 go_enter Tryz.func12,Tryz.ntmps12
 go_wp2_with fail
 refine(q_Read_yes (P:=fun _=>True) HQ.out HA.out (fun _ _=>trivial)).mono ?_
 rintro e w1 ⟨r1,rfl,hr1,hb1⟩
 have HR1:=Lib.hid hr1;clear hr1
 have HF1:=fgo w1 HF0
 have hz1:=HF1.out.1
 have HFb1:=Lib.hid (HF1.out.new3 (.bool r1.b) (.slice r1.nA r1.nn r1.nc) (.slice r1.dA r1.dn r1.dc) 60)
 go_wp2_with fail
 refine(q_Read_yes (P:=fun _=>True) HN.out HB.out (fun _ _=>trivial)).mono ?_
 rintro e w2 ⟨r2,rfl,hr2,hb2⟩
 have HR2:=Lib.hid hr2;clear hr2
 have HF2:=fgo w2 HFb1
 have hz2:=HF2.out.1
 have hx2_0:w1.heap.size<w2.heap.size:=(by omega)
 obtain⟨_,_,_,-⟩:=HF2.out.alls 0 3
 have HFb2:=Lib.hid (HF2.out.new3 (.bool r2.b) (.slice r2.nA r2.nn r2.nc) (.slice r2.dA r2.dn r2.dc) 60)
 go_wp2_with fail
 refine(q_Sign' (K:=75) (HR2.out.below blq) (by decide) HSY.out).mono ?_
 rintro e w3 ⟨rfl,hb3⟩
 have HF3:=fgo w3 HFb2
 have hz3:=HF3.out.1
 have hx3_0:w1.heap.size<w3.heap.size:=(by omega)
 have hx3_1:w2.heap.size<w3.heap.size:=(by omega)
 obtain⟨_,_,_,_,_,_,-⟩:=HF3.out.alls 0 6
 go_wp2_with fail
 refine(q_times (HR1.out.below blq) (HR2.out.below blq) HNZ.out HW.out).mono ?_
 rintro e w4 ⟨rfl,hb4⟩
 have HF4:=fgo w4 HF3
 have hz4:=HF4.out.1
 have hx4_0:w1.heap.size<w4.heap.size:=(by omega)
 have hx4_1:w2.heap.size<w4.heap.size:=(by omega)
 obtain⟨_,_,_,_,_,_,-⟩:=HF4.out.alls 0 6
 go_wp2_with fail
 go_ret2
 exact⟨by rw [HE.out];rfl,blq⟩
theorem q_rMultiple(a b:ByteArray)(ha:a.size≤140737488351232)(hb:b.size≤140737488351232) :
 Calls Tryz.prog 12 #[.string a,.string b] w fun e w'=>e=.returned (.tuple #[.bool (rMultiple a b).1,.int .i64 (rMultiple a b).2])∧Below w.heap.size w w':=by
 cases hq:numB a with
 | none=>exact q_rMultiple_n a b ha hb hq
 | some q =>
  cases hp:numB b with
  | none=>exact q_rMultiple_m a b ha hb hq hp
  | some p =>
   by_cases h0:p.num.sign≤0
   · exact q_rMultiple_a a b ha hb hq hp h0
   · exact q_rMultiple_y a b ha hb hq hp (by omega)
end
end Go.Proofs.YtpdghgfbfmaplaaGreatDoor.Rf
end
