/- Lemmas for RatOne and RatBetween. -/
import Derived.Test.YtpdghgfbfmaplaaGreatDoorZRefT
set_option maxRecDepth 100000
set_option maxHeartbeats 8000000
section
set_option linter.unusedVariables false
set_option linter.unusedSimpArgs false
namespace Go.Proofs.YtpdghgfbfmaplaaGreatDoor.Rf
open Go.RowKit Go.Proofs.YtpdghgfbfmaplaaGreatDoorW.PrintWords Go.Proofs.YtpdghgfbfmaplaaGreatDoor.Num Go.Proofs.YtpdghgfbfmaplaaGreatDoor.PRef Go.Proofs.YtpdghgfbfmaplaaGreatDoor.WhC Go.Proofs.YtpdghgfbfmaplaaGreatDoor.Dec Go.Proofs.YtpdghgfbfmaplaaGreatDoor.Wh
section
variable {w:World}
theorem q_rFloor_n(a:ByteArray)(ha:a.size≤140737488351232)(hq:numB a=none) :
 Calls Tryz.prog 38 #[.string a] w fun e w'=>e=.returned (.tuple #[.string (rFloor a).1,.int .i64 (rFloor a).2])∧Below w.heap.size w w':=by
 have HE:=Lib.hid (show rFloor a=(nob,1) by rw [rFloor,rUn,hq])
 have HA:=Lib.hid ha
 have HQ:=Lib.hid hq
 clear ha hq
 have HF0:=Lib.hid (show Fr [] (w.heap.size) w from(Fr.nil (by simp)))
 go_enter Tryz.func38,Tryz.ntmps38
 go_wp2_with fail
 refine(q_Read_no HQ.out HA.out).mono ?_
 rintro e w1 ⟨rfl,hb1⟩
 have HF1:=fgo w1 HF0
 have hz1:=HF1.out.1
 have HFb1:=Lib.hid (HF1.out.new3 (.bool false) (.slice none 0 0) (.slice none 0 0) 60)
 go_wp2_with fail
 go_ret2
 exact⟨by rw [HE.out];rfl,blq⟩
theorem q_rFloor_y(a:ByteArray)(ha:a.size≤140737488351232){q:Rat}(hq:numB a=some q) :
 Calls Tryz.prog 38 #[.string a] w fun e w'=>e=.returned (.tuple #[.string (rFloor a).1,.int .i64 (rFloor a).2])∧Below w.heap.size w w':=by
 have HE:=Lib.hid (show rFloor a=tellB ((q.floor:Int):Rat) by rw [rFloor,rUn,hq])
 have HA:=Lib.hid ha
 have HQ:=Lib.hid hq
 clear ha hq
 have HF0:=Lib.hid (show Fr [] (w.heap.size) w from(Fr.nil (by simp)))
 go_enter Tryz.func38,Tryz.ntmps38
 go_wp2_with fail
 refine(q_Read_yes (P:=fun _=>True) HQ.out HA.out (fun _ _=>trivial)).mono ?_
 rintro e w1 ⟨r1,rfl,hr1,hb1⟩
 have HR1:=Lib.hid hr1;clear hr1
 have HF1:=fgo w1 HF0
 have hz1:=HF1.out.1
 have HFb1:=Lib.hid (HF1.out.new3 (.bool r1.b) (.slice r1.nA r1.nn r1.nc) (.slice r1.dA r1.dn r1.dc) 60)
 go_wp2_with fail
 refine(q_Down (P:=fun _=>True) (HR1.out.below blq) (by decide) (fun _ _=>trivial)).mono ?_
 rintro e w2 ⟨r2,rfl,hr2,hb2⟩
 have HR2:=Lib.hid hr2;clear hr2
 have HF2:=fgo w2 HFb1
 have hz2:=HF2.out.1
 have hx2_0:w1.heap.size<w2.heap.size:=(by omega)
 obtain⟨_,_,_,-⟩:=HF2.out.alls 0 3
 go_wp2_with fail
 refine(q_Out (K:=75+1) (HR2.out.below blq) (by decide)).mono ?_
 rintro e w3 ⟨rfl,hb3⟩
 have HF3:=fgo w3 HF2
 have hz3:=HF3.out.1
 have hx3_0:w1.heap.size<w3.heap.size:=(by omega)
 obtain⟨_,_,_,-⟩:=HF3.out.alls 0 3
 go_wp2_with fail
 go_ret2
 exact⟨by rw [HE.out];rfl,blq⟩
theorem q_rFloor(a:ByteArray)(ha:a.size≤140737488351232) :
 Calls Tryz.prog 38 #[.string a] w fun e w'=>e=.returned (.tuple #[.string (rFloor a).1,.int .i64 (rFloor a).2])∧Below w.heap.size w w':=by
 cases hq:numB a with
 | none=>exact q_rFloor_n a ha hq
 | some q =>
  exact q_rFloor_y a ha hq
theorem q_rSign_n(a:ByteArray)(ha:a.size≤140737488351232)(hq:numB a=none) :
 Calls Tryz.prog 44 #[.string a] w fun e w'=>e=.returned (.tuple #[.int .i64 (rSign a).1,.int .i64 (rSign a).2])∧Below w.heap.size w w':=by
 have HE:=Lib.hid (show rSign a=(0,1) by rw [rSign,rCmp,hq])
 have HA:=Lib.hid ha
 have HQ:=Lib.hid hq
 clear ha hq
 have HF0:=Lib.hid (show Fr [] (w.heap.size) w from(Fr.nil (by simp)))
 go_enter Tryz.func44,Tryz.ntmps44
 go_wp2_with fail
 refine(q_Read_no HQ.out HA.out).mono ?_
 rintro e w1 ⟨rfl,hb1⟩
 have HF1:=fgo w1 HF0
 have hz1:=HF1.out.1
 have HFb1:=Lib.hid (HF1.out.new3 (.bool false) (.slice none 0 0) (.slice none 0 0) 60)
 go_wp2_with fail
 go_ret2
 exact⟨by rw [HE.out];rfl,blq⟩
theorem q_rSign_y(a:ByteArray)(ha:a.size≤140737488351232){q:Rat}(hq:numB a=some q) :
 Calls Tryz.prog 44 #[.string a] w fun e w'=>e=.returned (.tuple #[.int .i64 (rSign a).1,.int .i64 (rSign a).2])∧Below w.heap.size w w':=by
 have HE:=Lib.hid (show rSign a=(q.num.sign,0) by rw [rSign,rCmp,hq,numB_z];simp [Rat.sub_eq_add_neg,Rat.add_zero])
 have HA:=Lib.hid ha
 have HQ:=Lib.hid hq
 clear ha hq
 have HF0:=Lib.hid (show Fr [] (w.heap.size) w from(Fr.nil (by simp)))
 go_enter Tryz.func44,Tryz.ntmps44
 go_wp2_with fail
 refine(q_Read_yes (P:=fun _=>True) HQ.out HA.out (fun _ _=>trivial)).mono ?_
 rintro e w1 ⟨r1,rfl,hr1,hb1⟩
 have HR1:=Lib.hid hr1;clear hr1
 have HF1:=fgo w1 HF0
 have hz1:=HF1.out.1
 have HFb1:=Lib.hid (HF1.out.new3 (.bool r1.b) (.slice r1.nA r1.nn r1.nc) (.slice r1.dA r1.dn r1.dc) 60)
 go_wp2_with fail
 refine(q_Sign (K:=75) (HR1.out.below blq) (by decide)).mono ?_
 rintro e w2 ⟨rfl,hb2⟩
 have HF2:=fgo w2 HFb1
 have hz2:=HF2.out.1
 have hx2_0:w1.heap.size<w2.heap.size:=(by omega)
 obtain⟨_,_,_,-⟩:=HF2.out.alls 0 3
 go_wp2_with fail
 go_ret2
 exact⟨by rw [HE.out];rfl,blq⟩
theorem q_rSign(a:ByteArray)(ha:a.size≤140737488351232) :
 Calls Tryz.prog 44 #[.string a] w fun e w'=>e=.returned (.tuple #[.int .i64 (rSign a).1,.int .i64 (rSign a).2])∧Below w.heap.size w w':=by
 cases hq:numB a with
 | none=>exact q_rSign_n a ha hq
 | some q =>
  exact q_rSign_y a ha hq
theorem q_Whole'{P:Nat→Prop}{K:Nat}{x:QV}{q:Rat}{b:Bool}(hx:IsQ P K w x q)(hK:K≤1000000000)(hb:decide (q.den=1)=b) :
 Calls Tryz.prog 88 #[.agg #[.bool x.b,.slice x.nA x.nn x.nc,.slice x.dA x.dn x.dc]] w fun e w'=>e=.returned (.bool b)∧Below w.heap.size w w':=hb▸q_Whole hx hK
theorem q_rRound_n(a:ByteArray)(ha:a.size≤140737488351232)(hq:numB a=none) :
 Calls Tryz.prog 40 #[.string a] w fun e w'=>e=.returned (.tuple #[.string (rRound a).1,.int .i64 (rRound a).2])∧Below w.heap.size w w':=by
 have HE:=Lib.hid (show rRound a=(nob,1) by rw [rRound,rUn,hq])
 have HA:=Lib.hid ha
 have HQ:=Lib.hid hq
 clear ha hq
 have HF0:=Lib.hid (show Fr [] (w.heap.size) w from(Fr.nil (by simp)))
 go_enter Tryz.func40,Tryz.ntmps40
 go_wp2_with fail
 refine(q_Read_no HQ.out HA.out).mono ?_
 rintro e w1 ⟨rfl,hb1⟩
 have HF1:=fgo w1 HF0
 have hz1:=HF1.out.1
 have HFb1:=Lib.hid (HF1.out.new3 (.bool false) (.slice none 0 0) (.slice none 0 0) 60)
 go_wp2_with fail
 go_ret2
 exact⟨by rw [HE.out];rfl,blq⟩
theorem q_rRound_l(a:ByteArray)(ha:a.size≤140737488351232){q:Rat}(hq:numB a=some q)(hs:(q-(q.floor:Rat)-1/2).num.sign= -1) :
 Calls Tryz.prog 40 #[.string a] w fun e w'=>e=.returned (.tuple #[.string (rRound a).1,.int .i64 (rRound a).2])∧Below w.heap.size w w':=by
 have HE:=Lib.hid (show rRound a=tellB (((q.floor:Int):Rat)) by rw [rRound,rUn,hq];simp only [roundQ,hs];rfl)
 have HS:=Lib.hid hs
 obtain⟨bi,hbi⟩:∃b:Bool,decide (((q.floor:Rat)/((2:Int):Rat)).den=1)=b:=⟨_,rfl⟩
 have HI:=Lib.hid hbi
 clear hs hbi
 have HA:=Lib.hid ha
 have HQ:=Lib.hid hq
 clear ha hq
 have HF0:=Lib.hid (show Fr [] (w.heap.size) w from(Fr.nil (by simp)))
 go_enter Tryz.func40,Tryz.ntmps40
 go_wp2_with fail
 refine(q_Read_yes (P:=fun _=>True) HQ.out HA.out (fun _ _=>trivial)).mono ?_
 rintro e w1 ⟨r1,rfl,hr1,hb1⟩
 have HR1:=Lib.hid hr1;clear hr1
 have HF1:=fgo w1 HF0
 have hz1:=HF1.out.1
 have HFb1:=Lib.hid (HF1.out.new3 (.bool r1.b) (.slice r1.nA r1.nn r1.nc) (.slice r1.dA r1.dn r1.dc) 60)
 go_wp2_with fail
 refine(q_Down (P:=fun _=>True) (HR1.out.below blq) (by decide) (fun _ _=>trivial)).mono ?_
 rintro e w2 ⟨l,rfl,hl,hb2⟩
 have HL:=Lib.hid hl;clear hl
 have HF2:=fgo w2 HFb1
 have hz2:=HF2.out.1
 have hx2_0:w1.heap.size<w2.heap.size:=(by omega)
 obtain⟨_,_,_,-⟩:=HF2.out.alls 0 3
 have HLG:=Lib.hid (HL.out.gap 1)
 have HFb2:=Lib.hid (HF2.out.new3 (.bool l.b) (.slice l.nA l.nn l.nc) (.slice l.dA l.dn l.dc) 60)
 go_wp2_with fail
 refine(q_Of (P:=fun _=>True) 1 (by decide) (by decide) (fun _ _=>trivial)).mono ?_
 rintro e w3 ⟨u1,rfl,hu1,hb3⟩
 have HU1:=Lib.hid hu1;clear hu1
 have HF3:=fgo w3 HFb2
 have hz3:=HF3.out.1
 have hx3_0:w1.heap.size<w3.heap.size:=(by omega)
 have hx3_1:w2.heap.size<w3.heap.size:=(by omega)
 obtain⟨_,_,_,_,_,_,-⟩:=HF3.out.alls 0 6
 go_wp2_with fail
 refine(q_Of (P:=fun _=>True) 2 (by decide) (by decide) (fun _ _=>trivial)).mono ?_
 rintro e w4 ⟨u2,rfl,hu2,hb4⟩
 have HU2:=Lib.hid hu2;clear hu2
 have HF4:=fgo w4 HF3
 have hz4:=HF4.out.1
 have hx4_0:w1.heap.size<w4.heap.size:=(by omega)
 have hx4_1:w2.heap.size<w4.heap.size:=(by omega)
 obtain⟨_,_,_,_,_,_,-⟩:=HF4.out.alls 0 6
 go_wp2_with fail
 refine(q_Over (P:=fun _=>True) (HU1.out.below blq) (HU2.out.below blq) (by decide) (fun _ _=>trivial) (by decide)).mono ?_
 rintro e w5 ⟨h,rfl,hh,hb5⟩
 have HH:=Lib.hid hh;clear hh
 have HF5:=fgo w5 HF4
 have hz5:=HF5.out.1
 have hx5_0:w1.heap.size<w5.heap.size:=(by omega)
 have hx5_1:w2.heap.size<w5.heap.size:=(by omega)
 obtain⟨_,_,_,_,_,_,-⟩:=HF5.out.alls 0 6
 have HHF:=Lib.hid (show IsQ (fun _=>True) (5+5) _ h (1/2)from HH.out)
 have HFb5:=Lib.hid (HF5.out.new3 (.bool h.b) (.slice h.nA h.nn h.nc) (.slice h.dA h.dn h.dc) 60)
 go_wp2_with fail
 refine OrdL.begin_ (S:=fun W=>W.cell? ⟨w5.heap.size,0,none⟩=some (.bool h.b)∧W.cell? ⟨w5.heap.size,1,none⟩=some (.slice h.nA h.nn h.nc)∧W.cell? ⟨w5.heap.size,2,none⟩=some (.slice h.dA h.dn h.dc)∧W.cell? ⟨w2.heap.size,0,none⟩=some (.bool l.b)∧W.cell? ⟨w2.heap.size,1,none⟩=some (.slice l.nA l.nn l.nc)∧W.cell? ⟨w2.heap.size,2,none⟩=some (.slice l.dA l.dn l.dc)∧W.cell? ⟨w1.heap.size,0,none⟩=some (.bool r1.b)∧W.cell? ⟨w1.heap.size,1,none⟩=some (.slice r1.nA r1.nn r1.nc)∧W.cell? ⟨w1.heap.size,2,none⟩=some (.slice r1.dA r1.dn r1.dc)) [] [5] (by kernel_rfl) ?_ (fun hHeld=>?_)
 focus ((try dsimp only);exact(HFb5.out.go blq).all 0 9)
 refine OrdL.tk 0 (some 22) ?_
 refine nw ?_
 refine OrdL.tk 1 (some 23) ?_
 refine nw ?_
 refine OrdL.tk 3 (some 25) ?_
 refine nw ?_
 refine OrdL.st 2 fun Kc hKc=>?_
 refine nv ?_
 go_simp
 refine(q_Minus (P:=fun _=>True) (K:=76) ((HR1.out.wide (by decide)).below blq) (HL.out.below blq) (by decide) (fun _ _=>trivial)).mono ?_
 rintro e w6 ⟨d,rfl,hd,hb6⟩
 have HD:=Lib.hid hd;clear hd
 have HF6:=fgo w6 HFb5
 have hz6:=HF6.out.1
 have hx6_0:w1.heap.size<w6.heap.size:=(by omega)
 have hx6_1:w2.heap.size<w6.heap.size:=(by omega)
 have hx6_2:w5.heap.size<w6.heap.size:=(by omega)
 obtain⟨_,_,_,_,_,_,_,_,_,-⟩:=HF6.out.alls 0 9
 go_wp2_with fail
 refine hKc.out _ _ ?_ (fun hHeld=>?_)
 focus ((try dsimp only);exact(HF6.out.go blq).all 0 9)
 clear hKc Kc
 refine nw ?_
 refine OrdL.st 4 fun Kc hKc=>?_
 refine nv ?_
 go_simp
 refine(q_Against (P:=fun _=>True) (K:=76+76+1) (HD.out.below blq) ((HHF.out.wide (by decide)).below blq) (by decide) (fun _ _=>trivial) HS.out).mono ?_
 rintro e w7 ⟨rfl,hb7⟩
 have HF7:=fgo w7 HF6
 have hz7:=HF7.out.1
 have hx7_0:w1.heap.size<w7.heap.size:=(by omega)
 have hx7_1:w2.heap.size<w7.heap.size:=(by omega)
 have hx7_2:w5.heap.size<w7.heap.size:=(by omega)
 obtain⟨_,_,_,_,_,_,_,_,_,-⟩:=HF7.out.alls 0 9
 go_wp2_with fail
 refine hKc.out _ _ ?_ (fun hHeld=>?_)
 focus ((try dsimp only);exact(HF7.out.go blq).all 0 9)
 clear hKc Kc
 refine nw ?_
 refine OrdL.last (i:=5) rfl (by decide) (by decide) (by kernel_rfl) (fun Kc hKc=>?_)
 refine nv ?_
 go_simp
 refine hKc.out _ _ ?_
 clear hKc Kc
 refine nw ?_
 refine OrdL.done (by kernel_rfl) ?_ _
 go_wp2_with fail
 refine OrdL.begin_ (S:=fun W=>W.cell? ⟨w5.heap.size,0,none⟩=some (.bool h.b)∧W.cell? ⟨w5.heap.size,1,none⟩=some (.slice h.nA h.nn h.nc)∧W.cell? ⟨w5.heap.size,2,none⟩=some (.slice h.dA h.dn h.dc)∧W.cell? ⟨w2.heap.size,0,none⟩=some (.bool l.b)∧W.cell? ⟨w2.heap.size,1,none⟩=some (.slice l.nA l.nn l.nc)∧W.cell? ⟨w2.heap.size,2,none⟩=some (.slice l.dA l.dn l.dc)∧W.cell? ⟨w1.heap.size,0,none⟩=some (.bool r1.b)∧W.cell? ⟨w1.heap.size,1,none⟩=some (.slice r1.nA r1.nn r1.nc)∧W.cell? ⟨w1.heap.size,2,none⟩=some (.slice r1.dA r1.dn r1.dc)) [] [5] (by kernel_rfl) ?_ (fun hHeld=>?_)
 focus ((try dsimp only);exact(HF7.out.go blq).all 0 9)
 refine OrdL.tk 0 (some 27) ?_
 refine nw ?_
 refine OrdL.st 1 fun Kc hKc=>?_
 refine nv ?_
 go_simp
 refine(q_Of (P:=fun _=>True) 2 (by decide) (by decide) (fun _ _=>trivial)).mono ?_
 rintro e w8 ⟨u3,rfl,hu3,hb8⟩
 have HU3:=Lib.hid hu3;clear hu3
 have HF8:=fgo w8 HF7
 have hz8:=HF8.out.1
 have hx8_0:w1.heap.size<w8.heap.size:=(by omega)
 have hx8_1:w2.heap.size<w8.heap.size:=(by omega)
 have hx8_2:w5.heap.size<w8.heap.size:=(by omega)
 obtain⟨_,_,_,_,_,_,_,_,_,-⟩:=HF8.out.alls 0 9
 go_wp2_with fail
 refine hKc.out _ _ ?_ (fun hHeld=>?_)
 focus ((try dsimp only);exact(HF8.out.go blq).all 0 9)
 clear hKc Kc
 refine nw ?_
 refine OrdL.st 2 fun Kc hKc=>?_
 refine nv ?_
 go_simp
 refine(q_Over (P:=fun _=>True) (K:=76) (HL.out.below blq) ((HU3.out.wide (by decide)).below blq) (by decide) (fun _ _=>trivial) (by decide)).mono ?_
 rintro e w9 ⟨m,rfl,hm,hb9⟩
 have HM:=Lib.hid hm;clear hm
 have HF9:=fgo w9 HF8
 have hz9:=HF9.out.1
 have hx9_0:w1.heap.size<w9.heap.size:=(by omega)
 have hx9_1:w2.heap.size<w9.heap.size:=(by omega)
 have hx9_2:w5.heap.size<w9.heap.size:=(by omega)
 obtain⟨_,_,_,_,_,_,_,_,_,-⟩:=HF9.out.alls 0 9
 go_wp2_with fail
 refine hKc.out _ _ ?_ (fun hHeld=>?_)
 focus ((try dsimp only);exact(HF9.out.go blq).all 0 9)
 clear hKc Kc
 refine nw ?_
 refine OrdL.st 3 fun Kc hKc=>?_
 refine nv ?_
 go_simp
 refine(q_Whole' (K:=76+76) (HM.out.below blq) (by decide) HI.out).mono ?_
 rintro e w10 ⟨rfl,hb10⟩
 have HF10:=fgo w10 HF9
 have hz10:=HF10.out.1
 have hx10_0:w1.heap.size<w10.heap.size:=(by omega)
 have hx10_1:w2.heap.size<w10.heap.size:=(by omega)
 have hx10_2:w5.heap.size<w10.heap.size:=(by omega)
 obtain⟨_,_,_,_,_,_,_,_,_,-⟩:=HF10.out.alls 0 9
 go_wp2_with fail
 refine hKc.out _ _ ?_ (fun hHeld=>?_)
 focus ((try dsimp only);exact(HF10.out.go blq).all 0 9)
 clear hKc Kc
 refine nw ?_
 refine OrdL.tk 4 (some 31) ?_
 refine nw ?_
 refine OrdL.last (i:=5) rfl (by decide) (by decide) (by kernel_rfl) (fun Kc hKc=>?_)
 refine nv ?_
 go_simp
 refine hKc.out _ _ ?_
 clear hKc Kc
 refine nw ?_
 refine OrdL.done (by kernel_rfl) ?_ _
 go_wp2_with fail
 refine(q_Out (K:=76) (HL.out.below blq) (by decide)).mono ?_
 rintro e w11 ⟨rfl,hb11⟩
 have HF11:=fgo w11 HF10
 have hz11:=HF11.out.1
 have hx11_0:w1.heap.size<w11.heap.size:=(by omega)
 have hx11_1:w2.heap.size<w11.heap.size:=(by omega)
 have hx11_2:w5.heap.size<w11.heap.size:=(by omega)
 obtain⟨_,_,_,_,_,_,_,_,_,-⟩:=HF11.out.alls 0 9
 go_wp2_with fail
 go_ret2
 exact⟨by rw [HE.out];rfl,blq⟩
theorem q_rRound_g(a:ByteArray)(ha:a.size≤140737488351232){q:Rat}(hq:numB a=some q)(hs:(q-(q.floor:Rat)-1/2).num.sign=1) :
 Calls Tryz.prog 40 #[.string a] w fun e w'=>e=.returned (.tuple #[.string (rRound a).1,.int .i64 (rRound a).2])∧Below w.heap.size w w':=by
 have HE:=Lib.hid (show rRound a=tellB (((q.floor:Int):Rat)+1) by rw [rRound,rUn,hq];simp only [roundQ,hs];rfl)
 have HS:=Lib.hid hs
 obtain⟨bi,hbi⟩:∃b:Bool,decide (((q.floor:Rat)/((2:Int):Rat)).den=1)=b:=⟨_,rfl⟩
 have HI:=Lib.hid hbi
 clear hs hbi
 have HA:=Lib.hid ha
 have HQ:=Lib.hid hq
 clear ha hq
 have HF0:=Lib.hid (show Fr [] (w.heap.size) w from(Fr.nil (by simp)))
 go_enter Tryz.func40,Tryz.ntmps40
 go_wp2_with fail
 refine(q_Read_yes (P:=fun _=>True) HQ.out HA.out (fun _ _=>trivial)).mono ?_
 rintro e w1 ⟨r1,rfl,hr1,hb1⟩
 have HR1:=Lib.hid hr1;clear hr1
 have HF1:=fgo w1 HF0
 have hz1:=HF1.out.1
 have HFb1:=Lib.hid (HF1.out.new3 (.bool r1.b) (.slice r1.nA r1.nn r1.nc) (.slice r1.dA r1.dn r1.dc) 60)
 go_wp2_with fail
 refine(q_Down (P:=fun _=>True) (HR1.out.below blq) (by decide) (fun _ _=>trivial)).mono ?_
 rintro e w2 ⟨l,rfl,hl,hb2⟩
 have HL:=Lib.hid hl;clear hl
 have HF2:=fgo w2 HFb1
 have hz2:=HF2.out.1
 have hx2_0:w1.heap.size<w2.heap.size:=(by omega)
 obtain⟨_,_,_,-⟩:=HF2.out.alls 0 3
 have HLG:=Lib.hid (HL.out.gap 1)
 have HFb2:=Lib.hid (HF2.out.new3 (.bool l.b) (.slice l.nA l.nn l.nc) (.slice l.dA l.dn l.dc) 60)
 go_wp2_with fail
 refine(q_Of (P:=fun _=>True) 1 (by decide) (by decide) (fun _ _=>trivial)).mono ?_
 rintro e w3 ⟨u1,rfl,hu1,hb3⟩
 have HU1:=Lib.hid hu1;clear hu1
 have HF3:=fgo w3 HFb2
 have hz3:=HF3.out.1
 have hx3_0:w1.heap.size<w3.heap.size:=(by omega)
 have hx3_1:w2.heap.size<w3.heap.size:=(by omega)
 obtain⟨_,_,_,_,_,_,-⟩:=HF3.out.alls 0 6
 go_wp2_with fail
 refine(q_Of (P:=fun _=>True) 2 (by decide) (by decide) (fun _ _=>trivial)).mono ?_
 rintro e w4 ⟨u2,rfl,hu2,hb4⟩
 have HU2:=Lib.hid hu2;clear hu2
 have HF4:=fgo w4 HF3
 have hz4:=HF4.out.1
 have hx4_0:w1.heap.size<w4.heap.size:=(by omega)
 have hx4_1:w2.heap.size<w4.heap.size:=(by omega)
 obtain⟨_,_,_,_,_,_,-⟩:=HF4.out.alls 0 6
 go_wp2_with fail
 refine(q_Over (P:=fun _=>True) (HU1.out.below blq) (HU2.out.below blq) (by decide) (fun _ _=>trivial) (by decide)).mono ?_
 rintro e w5 ⟨h,rfl,hh,hb5⟩
 have HH:=Lib.hid hh;clear hh
 have HF5:=fgo w5 HF4
 have hz5:=HF5.out.1
 have hx5_0:w1.heap.size<w5.heap.size:=(by omega)
 have hx5_1:w2.heap.size<w5.heap.size:=(by omega)
 obtain⟨_,_,_,_,_,_,-⟩:=HF5.out.alls 0 6
 have HHF:=Lib.hid (show IsQ (fun _=>True) (5+5) _ h (1/2)from HH.out)
 have HFb5:=Lib.hid (HF5.out.new3 (.bool h.b) (.slice h.nA h.nn h.nc) (.slice h.dA h.dn h.dc) 60)
 go_wp2_with fail
 refine OrdL.begin_ (S:=fun W=>W.cell? ⟨w5.heap.size,0,none⟩=some (.bool h.b)∧W.cell? ⟨w5.heap.size,1,none⟩=some (.slice h.nA h.nn h.nc)∧W.cell? ⟨w5.heap.size,2,none⟩=some (.slice h.dA h.dn h.dc)∧W.cell? ⟨w2.heap.size,0,none⟩=some (.bool l.b)∧W.cell? ⟨w2.heap.size,1,none⟩=some (.slice l.nA l.nn l.nc)∧W.cell? ⟨w2.heap.size,2,none⟩=some (.slice l.dA l.dn l.dc)∧W.cell? ⟨w1.heap.size,0,none⟩=some (.bool r1.b)∧W.cell? ⟨w1.heap.size,1,none⟩=some (.slice r1.nA r1.nn r1.nc)∧W.cell? ⟨w1.heap.size,2,none⟩=some (.slice r1.dA r1.dn r1.dc)) [] [5] (by kernel_rfl) ?_ (fun hHeld=>?_)
 focus ((try dsimp only);exact(HFb5.out.go blq).all 0 9)
 refine OrdL.tk 0 (some 22) ?_
 refine nw ?_
 refine OrdL.tk 1 (some 23) ?_
 refine nw ?_
 refine OrdL.tk 3 (some 25) ?_
 refine nw ?_
 refine OrdL.st 2 fun Kc hKc=>?_
 refine nv ?_
 go_simp
 refine(q_Minus (P:=fun _=>True) (K:=76) ((HR1.out.wide (by decide)).below blq) (HL.out.below blq) (by decide) (fun _ _=>trivial)).mono ?_
 rintro e w6 ⟨d,rfl,hd,hb6⟩
 have HD:=Lib.hid hd;clear hd
 have HF6:=fgo w6 HFb5
 have hz6:=HF6.out.1
 have hx6_0:w1.heap.size<w6.heap.size:=(by omega)
 have hx6_1:w2.heap.size<w6.heap.size:=(by omega)
 have hx6_2:w5.heap.size<w6.heap.size:=(by omega)
 obtain⟨_,_,_,_,_,_,_,_,_,-⟩:=HF6.out.alls 0 9
 go_wp2_with fail
 refine hKc.out _ _ ?_ (fun hHeld=>?_)
 focus ((try dsimp only);exact(HF6.out.go blq).all 0 9)
 clear hKc Kc
 refine nw ?_
 refine OrdL.st 4 fun Kc hKc=>?_
 refine nv ?_
 go_simp
 refine(q_Against (P:=fun _=>True) (K:=76+76+1) (HD.out.below blq) ((HHF.out.wide (by decide)).below blq) (by decide) (fun _ _=>trivial) HS.out).mono ?_
 rintro e w7 ⟨rfl,hb7⟩
 have HF7:=fgo w7 HF6
 have hz7:=HF7.out.1
 have hx7_0:w1.heap.size<w7.heap.size:=(by omega)
 have hx7_1:w2.heap.size<w7.heap.size:=(by omega)
 have hx7_2:w5.heap.size<w7.heap.size:=(by omega)
 obtain⟨_,_,_,_,_,_,_,_,_,-⟩:=HF7.out.alls 0 9
 go_wp2_with fail
 refine hKc.out _ _ ?_ (fun hHeld=>?_)
 focus ((try dsimp only);exact(HF7.out.go blq).all 0 9)
 clear hKc Kc
 refine nw ?_
 refine OrdL.last (i:=5) rfl (by decide) (by decide) (by kernel_rfl) (fun Kc hKc=>?_)
 refine nv ?_
 go_simp
 refine hKc.out _ _ ?_
 clear hKc Kc
 refine nw ?_
 refine OrdL.done (by kernel_rfl) ?_ _
 go_wp2_with fail
 refine OrdL.begin_ (S:=fun W=>W.cell? ⟨w5.heap.size,0,none⟩=some (.bool h.b)∧W.cell? ⟨w5.heap.size,1,none⟩=some (.slice h.nA h.nn h.nc)∧W.cell? ⟨w5.heap.size,2,none⟩=some (.slice h.dA h.dn h.dc)∧W.cell? ⟨w2.heap.size,0,none⟩=some (.bool l.b)∧W.cell? ⟨w2.heap.size,1,none⟩=some (.slice l.nA l.nn l.nc)∧W.cell? ⟨w2.heap.size,2,none⟩=some (.slice l.dA l.dn l.dc)∧W.cell? ⟨w1.heap.size,0,none⟩=some (.bool r1.b)∧W.cell? ⟨w1.heap.size,1,none⟩=some (.slice r1.nA r1.nn r1.nc)∧W.cell? ⟨w1.heap.size,2,none⟩=some (.slice r1.dA r1.dn r1.dc)) [] [5] (by kernel_rfl) ?_ (fun hHeld=>?_)
 focus ((try dsimp only);exact(HF7.out.go blq).all 0 9)
 refine OrdL.tk 0 (some 27) ?_
 refine nw ?_
 refine OrdL.st 1 fun Kc hKc=>?_
 refine nv ?_
 go_simp
 refine(q_Of (P:=fun _=>True) 2 (by decide) (by decide) (fun _ _=>trivial)).mono ?_
 rintro e w8 ⟨u3,rfl,hu3,hb8⟩
 have HU3:=Lib.hid hu3;clear hu3
 have HF8:=fgo w8 HF7
 have hz8:=HF8.out.1
 have hx8_0:w1.heap.size<w8.heap.size:=(by omega)
 have hx8_1:w2.heap.size<w8.heap.size:=(by omega)
 have hx8_2:w5.heap.size<w8.heap.size:=(by omega)
 obtain⟨_,_,_,_,_,_,_,_,_,-⟩:=HF8.out.alls 0 9
 go_wp2_with fail
 refine hKc.out _ _ ?_ (fun hHeld=>?_)
 focus ((try dsimp only);exact(HF8.out.go blq).all 0 9)
 clear hKc Kc
 refine nw ?_
 refine OrdL.st 2 fun Kc hKc=>?_
 refine nv ?_
 go_simp
 refine(q_Over (P:=fun _=>True) (K:=76) (HL.out.below blq) ((HU3.out.wide (by decide)).below blq) (by decide) (fun _ _=>trivial) (by decide)).mono ?_
 rintro e w9 ⟨m,rfl,hm,hb9⟩
 have HM:=Lib.hid hm;clear hm
 have HF9:=fgo w9 HF8
 have hz9:=HF9.out.1
 have hx9_0:w1.heap.size<w9.heap.size:=(by omega)
 have hx9_1:w2.heap.size<w9.heap.size:=(by omega)
 have hx9_2:w5.heap.size<w9.heap.size:=(by omega)
 obtain⟨_,_,_,_,_,_,_,_,_,-⟩:=HF9.out.alls 0 9
 go_wp2_with fail
 refine hKc.out _ _ ?_ (fun hHeld=>?_)
 focus ((try dsimp only);exact(HF9.out.go blq).all 0 9)
 clear hKc Kc
 refine nw ?_
 refine OrdL.st 3 fun Kc hKc=>?_
 refine nv ?_
 go_simp
 refine(q_Whole' (K:=76+76) (HM.out.below blq) (by decide) HI.out).mono ?_
 rintro e w10 ⟨rfl,hb10⟩
 have HF10:=fgo w10 HF9
 have hz10:=HF10.out.1
 have hx10_0:w1.heap.size<w10.heap.size:=(by omega)
 have hx10_1:w2.heap.size<w10.heap.size:=(by omega)
 have hx10_2:w5.heap.size<w10.heap.size:=(by omega)
 obtain⟨_,_,_,_,_,_,_,_,_,-⟩:=HF10.out.alls 0 9
 go_wp2_with fail
 refine hKc.out _ _ ?_ (fun hHeld=>?_)
 focus ((try dsimp only);exact(HF10.out.go blq).all 0 9)
 clear hKc Kc
 refine nw ?_
 refine OrdL.tk 4 (some 31) ?_
 refine nw ?_
 refine OrdL.last (i:=5) rfl (by decide) (by decide) (by kernel_rfl) (fun Kc hKc=>?_)
 refine nv ?_
 go_simp
 refine hKc.out _ _ ?_
 clear hKc Kc
 refine nw ?_
 refine OrdL.done (by kernel_rfl) ?_ _
 go_wp2_with fail
 refine OrdL.begin_ (S:=fun W=>W.cell? ⟨w5.heap.size,0,none⟩=some (.bool h.b)∧W.cell? ⟨w5.heap.size,1,none⟩=some (.slice h.nA h.nn h.nc)∧W.cell? ⟨w5.heap.size,2,none⟩=some (.slice h.dA h.dn h.dc)∧W.cell? ⟨w2.heap.size,0,none⟩=some (.bool l.b)∧W.cell? ⟨w2.heap.size,1,none⟩=some (.slice l.nA l.nn l.nc)∧W.cell? ⟨w2.heap.size,2,none⟩=some (.slice l.dA l.dn l.dc)∧W.cell? ⟨w1.heap.size,0,none⟩=some (.bool r1.b)∧W.cell? ⟨w1.heap.size,1,none⟩=some (.slice r1.nA r1.nn r1.nc)∧W.cell? ⟨w1.heap.size,2,none⟩=some (.slice r1.dA r1.dn r1.dc)) [] [3] (by kernel_rfl) ?_ (fun hHeld=>?_)
 focus ((try dsimp only);exact(HF10.out.go blq).all 0 9)
 refine OrdL.tk 0 (some 41) ?_
 refine nw ?_
 refine OrdL.st 1 fun Kc hKc=>?_
 refine nv ?_
 go_simp
 refine(q_Of (P:=Gp (fun _=>True) (w2.heap.size) 1) 1 (by decide) (by decide) (gap_fresh (fun _ _=>trivial) blq arq)).mono ?_
 rintro e w11 ⟨v1,rfl,hv1,hb11⟩
 have HV1:=Lib.hid hv1;clear hv1
 have HF11:=fgo w11 HF10
 have hz11:=HF11.out.1
 have hx11_0:w1.heap.size<w11.heap.size:=(by omega)
 have hx11_1:w2.heap.size<w11.heap.size:=(by omega)
 have hx11_2:w5.heap.size<w11.heap.size:=(by omega)
 obtain⟨_,_,_,_,_,_,_,_,_,-⟩:=HF11.out.alls 0 9
 go_wp2_with fail
 refine hKc.out _ _ ?_ (fun hHeld=>?_)
 focus ((try dsimp only);exact(HF11.out.go blq).all 0 9)
 clear hKc Kc
 refine nw ?_
 refine OrdL.st 2 fun Kc hKc=>?_
 refine nv ?_
 go_simp
 refine(q_Plus (P:=Gp (fun _=>True) (w2.heap.size) 1) (K:=76) (HLG.out.below blq) ((HV1.out.wide (by decide)).below blq) (by decide) (gap_fresh (fun _ _=>trivial) blq arq)).mono ?_
 rintro e w12 ⟨r,rfl,hr,hb12⟩
 have HR:=Lib.hid hr;clear hr
 have HF12:=fgo w12 HF11
 have hz12:=HF12.out.1
 have hx12_0:w1.heap.size<w12.heap.size:=(by omega)
 have hx12_1:w2.heap.size<w12.heap.size:=(by omega)
 have hx12_2:w5.heap.size<w12.heap.size:=(by omega)
 obtain⟨_,_,_,_,_,_,_,_,_,-⟩:=HF12.out.alls 0 9
 obtain⟨_,_,_,-⟩:=HF12.out.falls 3 3
 go_wp2_with fail
 refine hKc.out _ _ ?_ (fun hHeld=>?_)
 focus ((try dsimp only);exact(HF12.out.go blq).all 0 9)
 clear hKc Kc
 refine nw ?_
 refine OrdL.last (i:=3) rfl (by decide) (by decide) (by kernel_rfl) (fun Kc hKc=>?_)
 refine nv ?_
 go_simp
 refine hKc.out _ _ ?_
 clear hKc Kc
 refine nw ?_
 refine OrdL.done (by kernel_rfl) ?_ _
 go_wp2_with fail
 refine(q_Out (P:=fun _=>True) (K:=76+76+1) (x:=r) (q:=(q.floor:Rat)+1) ?hr (by decide)).mono ?_
 case hr=>exact (((HR.out.put _ arq arq).put _ arq arq).put _ arq arq).ungap
 rintro e wz ⟨rfl,hbz⟩
 go_wp2_with fail
 go_ret2
 exact⟨by rw [HE.out];rfl,blq⟩
theorem q_rRound_e(a:ByteArray)(ha:a.size≤140737488351232){q:Rat}(hq:numB a=some q)(hs:(q-(q.floor:Rat)-1/2).num.sign=0)(hi:((q.floor:Rat)*(1/2)).den=1) :
 Calls Tryz.prog 40 #[.string a] w fun e w'=>e=.returned (.tuple #[.string (rRound a).1,.int .i64 (rRound a).2])∧Below w.heap.size w w':=by
 have HE:=Lib.hid (show rRound a=tellB (((q.floor:Int):Rat)) by rw [rRound,rUn,hq];simp only [roundQ,hs,hi];rfl)
 have HS:=Lib.hid hs
 obtain⟨bi,hbi,rfl⟩:∃b:Bool,decide (((q.floor:Rat)/((2:Int):Rat)).den=1)=b∧b=true:=⟨_,rfl,by rw [show (q.floor:Rat)/((2:Int):Rat)=(q.floor:Rat)*(1/2) by rw [Rat.div_def,Rat.div_def,Rat.one_mul];rfl];simpa using hi⟩
 have HI:=Lib.hid hbi
 clear hs hbi hi
 have HA:=Lib.hid ha
 have HQ:=Lib.hid hq
 clear ha hq
 have HF0:=Lib.hid (show Fr [] (w.heap.size) w from(Fr.nil (by simp)))
 go_enter Tryz.func40,Tryz.ntmps40
 go_wp2_with fail
 refine(q_Read_yes (P:=fun _=>True) HQ.out HA.out (fun _ _=>trivial)).mono ?_
 rintro e w1 ⟨r1,rfl,hr1,hb1⟩
 have HR1:=Lib.hid hr1;clear hr1
 have HF1:=fgo w1 HF0
 have hz1:=HF1.out.1
 have HFb1:=Lib.hid (HF1.out.new3 (.bool r1.b) (.slice r1.nA r1.nn r1.nc) (.slice r1.dA r1.dn r1.dc) 60)
 go_wp2_with fail
 refine(q_Down (P:=fun _=>True) (HR1.out.below blq) (by decide) (fun _ _=>trivial)).mono ?_
 rintro e w2 ⟨l,rfl,hl,hb2⟩
 have HL:=Lib.hid hl;clear hl
 have HF2:=fgo w2 HFb1
 have hz2:=HF2.out.1
 have hx2_0:w1.heap.size<w2.heap.size:=(by omega)
 obtain⟨_,_,_,-⟩:=HF2.out.alls 0 3
 have HLG:=Lib.hid (HL.out.gap 1)
 have HFb2:=Lib.hid (HF2.out.new3 (.bool l.b) (.slice l.nA l.nn l.nc) (.slice l.dA l.dn l.dc) 60)
 go_wp2_with fail
 refine(q_Of (P:=fun _=>True) 1 (by decide) (by decide) (fun _ _=>trivial)).mono ?_
 rintro e w3 ⟨u1,rfl,hu1,hb3⟩
 have HU1:=Lib.hid hu1;clear hu1
 have HF3:=fgo w3 HFb2
 have hz3:=HF3.out.1
 have hx3_0:w1.heap.size<w3.heap.size:=(by omega)
 have hx3_1:w2.heap.size<w3.heap.size:=(by omega)
 obtain⟨_,_,_,_,_,_,-⟩:=HF3.out.alls 0 6
 go_wp2_with fail
 refine(q_Of (P:=fun _=>True) 2 (by decide) (by decide) (fun _ _=>trivial)).mono ?_
 rintro e w4 ⟨u2,rfl,hu2,hb4⟩
 have HU2:=Lib.hid hu2;clear hu2
 have HF4:=fgo w4 HF3
 have hz4:=HF4.out.1
 have hx4_0:w1.heap.size<w4.heap.size:=(by omega)
 have hx4_1:w2.heap.size<w4.heap.size:=(by omega)
 obtain⟨_,_,_,_,_,_,-⟩:=HF4.out.alls 0 6
 go_wp2_with fail
 refine(q_Over (P:=fun _=>True) (HU1.out.below blq) (HU2.out.below blq) (by decide) (fun _ _=>trivial) (by decide)).mono ?_
 rintro e w5 ⟨h,rfl,hh,hb5⟩
 have HH:=Lib.hid hh;clear hh
 have HF5:=fgo w5 HF4
 have hz5:=HF5.out.1
 have hx5_0:w1.heap.size<w5.heap.size:=(by omega)
 have hx5_1:w2.heap.size<w5.heap.size:=(by omega)
 obtain⟨_,_,_,_,_,_,-⟩:=HF5.out.alls 0 6
 have HHF:=Lib.hid (show IsQ (fun _=>True) (5+5) _ h (1/2)from HH.out)
 have HFb5:=Lib.hid (HF5.out.new3 (.bool h.b) (.slice h.nA h.nn h.nc) (.slice h.dA h.dn h.dc) 60)
 go_wp2_with fail
 refine OrdL.begin_ (S:=fun W=>W.cell? ⟨w5.heap.size,0,none⟩=some (.bool h.b)∧W.cell? ⟨w5.heap.size,1,none⟩=some (.slice h.nA h.nn h.nc)∧W.cell? ⟨w5.heap.size,2,none⟩=some (.slice h.dA h.dn h.dc)∧W.cell? ⟨w2.heap.size,0,none⟩=some (.bool l.b)∧W.cell? ⟨w2.heap.size,1,none⟩=some (.slice l.nA l.nn l.nc)∧W.cell? ⟨w2.heap.size,2,none⟩=some (.slice l.dA l.dn l.dc)∧W.cell? ⟨w1.heap.size,0,none⟩=some (.bool r1.b)∧W.cell? ⟨w1.heap.size,1,none⟩=some (.slice r1.nA r1.nn r1.nc)∧W.cell? ⟨w1.heap.size,2,none⟩=some (.slice r1.dA r1.dn r1.dc)) [] [5] (by kernel_rfl) ?_ (fun hHeld=>?_)
 focus ((try dsimp only);exact(HFb5.out.go blq).all 0 9)
 refine OrdL.tk 0 (some 22) ?_
 refine nw ?_
 refine OrdL.tk 1 (some 23) ?_
 refine nw ?_
 refine OrdL.tk 3 (some 25) ?_
 refine nw ?_
 refine OrdL.st 2 fun Kc hKc=>?_
 refine nv ?_
 go_simp
 refine(q_Minus (P:=fun _=>True) (K:=76) ((HR1.out.wide (by decide)).below blq) (HL.out.below blq) (by decide) (fun _ _=>trivial)).mono ?_
 rintro e w6 ⟨d,rfl,hd,hb6⟩
 have HD:=Lib.hid hd;clear hd
 have HF6:=fgo w6 HFb5
 have hz6:=HF6.out.1
 have hx6_0:w1.heap.size<w6.heap.size:=(by omega)
 have hx6_1:w2.heap.size<w6.heap.size:=(by omega)
 have hx6_2:w5.heap.size<w6.heap.size:=(by omega)
 obtain⟨_,_,_,_,_,_,_,_,_,-⟩:=HF6.out.alls 0 9
 go_wp2_with fail
 refine hKc.out _ _ ?_ (fun hHeld=>?_)
 focus ((try dsimp only);exact(HF6.out.go blq).all 0 9)
 clear hKc Kc
 refine nw ?_
 refine OrdL.st 4 fun Kc hKc=>?_
 refine nv ?_
 go_simp
 refine(q_Against (P:=fun _=>True) (K:=76+76+1) (HD.out.below blq) ((HHF.out.wide (by decide)).below blq) (by decide) (fun _ _=>trivial) HS.out).mono ?_
 rintro e w7 ⟨rfl,hb7⟩
 have HF7:=fgo w7 HF6
 have hz7:=HF7.out.1
 have hx7_0:w1.heap.size<w7.heap.size:=(by omega)
 have hx7_1:w2.heap.size<w7.heap.size:=(by omega)
 have hx7_2:w5.heap.size<w7.heap.size:=(by omega)
 obtain⟨_,_,_,_,_,_,_,_,_,-⟩:=HF7.out.alls 0 9
 go_wp2_with fail
 refine hKc.out _ _ ?_ (fun hHeld=>?_)
 focus ((try dsimp only);exact(HF7.out.go blq).all 0 9)
 clear hKc Kc
 refine nw ?_
 refine OrdL.last (i:=5) rfl (by decide) (by decide) (by kernel_rfl) (fun Kc hKc=>?_)
 refine nv ?_
 go_simp
 refine hKc.out _ _ ?_
 clear hKc Kc
 refine nw ?_
 refine OrdL.done (by kernel_rfl) ?_ _
 go_wp2_with fail
 refine OrdL.begin_ (S:=fun W=>W.cell? ⟨w5.heap.size,0,none⟩=some (.bool h.b)∧W.cell? ⟨w5.heap.size,1,none⟩=some (.slice h.nA h.nn h.nc)∧W.cell? ⟨w5.heap.size,2,none⟩=some (.slice h.dA h.dn h.dc)∧W.cell? ⟨w2.heap.size,0,none⟩=some (.bool l.b)∧W.cell? ⟨w2.heap.size,1,none⟩=some (.slice l.nA l.nn l.nc)∧W.cell? ⟨w2.heap.size,2,none⟩=some (.slice l.dA l.dn l.dc)∧W.cell? ⟨w1.heap.size,0,none⟩=some (.bool r1.b)∧W.cell? ⟨w1.heap.size,1,none⟩=some (.slice r1.nA r1.nn r1.nc)∧W.cell? ⟨w1.heap.size,2,none⟩=some (.slice r1.dA r1.dn r1.dc)) [] [5] (by kernel_rfl) ?_ (fun hHeld=>?_)
 focus ((try dsimp only);exact(HF7.out.go blq).all 0 9)
 refine OrdL.tk 0 (some 27) ?_
 refine nw ?_
 refine OrdL.st 1 fun Kc hKc=>?_
 refine nv ?_
 go_simp
 refine(q_Of (P:=fun _=>True) 2 (by decide) (by decide) (fun _ _=>trivial)).mono ?_
 rintro e w8 ⟨u3,rfl,hu3,hb8⟩
 have HU3:=Lib.hid hu3;clear hu3
 have HF8:=fgo w8 HF7
 have hz8:=HF8.out.1
 have hx8_0:w1.heap.size<w8.heap.size:=(by omega)
 have hx8_1:w2.heap.size<w8.heap.size:=(by omega)
 have hx8_2:w5.heap.size<w8.heap.size:=(by omega)
 obtain⟨_,_,_,_,_,_,_,_,_,-⟩:=HF8.out.alls 0 9
 go_wp2_with fail
 refine hKc.out _ _ ?_ (fun hHeld=>?_)
 focus ((try dsimp only);exact(HF8.out.go blq).all 0 9)
 clear hKc Kc
 refine nw ?_
 refine OrdL.st 2 fun Kc hKc=>?_
 refine nv ?_
 go_simp
 refine(q_Over (P:=fun _=>True) (K:=76) (HL.out.below blq) ((HU3.out.wide (by decide)).below blq) (by decide) (fun _ _=>trivial) (by decide)).mono ?_
 rintro e w9 ⟨m,rfl,hm,hb9⟩
 have HM:=Lib.hid hm;clear hm
 have HF9:=fgo w9 HF8
 have hz9:=HF9.out.1
 have hx9_0:w1.heap.size<w9.heap.size:=(by omega)
 have hx9_1:w2.heap.size<w9.heap.size:=(by omega)
 have hx9_2:w5.heap.size<w9.heap.size:=(by omega)
 obtain⟨_,_,_,_,_,_,_,_,_,-⟩:=HF9.out.alls 0 9
 go_wp2_with fail
 refine hKc.out _ _ ?_ (fun hHeld=>?_)
 focus ((try dsimp only);exact(HF9.out.go blq).all 0 9)
 clear hKc Kc
 refine nw ?_
 refine OrdL.st 3 fun Kc hKc=>?_
 refine nv ?_
 go_simp
 refine(q_Whole' (K:=76+76) (HM.out.below blq) (by decide) HI.out).mono ?_
 rintro e w10 ⟨rfl,hb10⟩
 have HF10:=fgo w10 HF9
 have hz10:=HF10.out.1
 have hx10_0:w1.heap.size<w10.heap.size:=(by omega)
 have hx10_1:w2.heap.size<w10.heap.size:=(by omega)
 have hx10_2:w5.heap.size<w10.heap.size:=(by omega)
 obtain⟨_,_,_,_,_,_,_,_,_,-⟩:=HF10.out.alls 0 9
 go_wp2_with fail
 refine hKc.out _ _ ?_ (fun hHeld=>?_)
 focus ((try dsimp only);exact(HF10.out.go blq).all 0 9)
 clear hKc Kc
 refine nw ?_
 refine OrdL.tk 4 (some 31) ?_
 refine nw ?_
 refine OrdL.last (i:=5) rfl (by decide) (by decide) (by kernel_rfl) (fun Kc hKc=>?_)
 refine nv ?_
 go_simp
 refine hKc.out _ _ ?_
 clear hKc Kc
 refine nw ?_
 refine OrdL.done (by kernel_rfl) ?_ _
 go_wp2_with fail
 refine(q_Out (K:=76) (HL.out.below blq) (by decide)).mono ?_
 rintro e w11 ⟨rfl,hb11⟩
 have HF11:=fgo w11 HF10
 have hz11:=HF11.out.1
 have hx11_0:w1.heap.size<w11.heap.size:=(by omega)
 have hx11_1:w2.heap.size<w11.heap.size:=(by omega)
 have hx11_2:w5.heap.size<w11.heap.size:=(by omega)
 obtain⟨_,_,_,_,_,_,_,_,_,-⟩:=HF11.out.alls 0 9
 go_wp2_with fail
 go_ret2
 exact⟨by rw [HE.out];rfl,blq⟩
theorem q_rRound_o(a:ByteArray)(ha:a.size≤140737488351232){q:Rat}(hq:numB a=some q)(hs:(q-(q.floor:Rat)-1/2).num.sign=0)(hi:¬((q.floor:Rat)*(1/2)).den=1) :
 Calls Tryz.prog 40 #[.string a] w fun e w'=>e=.returned (.tuple #[.string (rRound a).1,.int .i64 (rRound a).2])∧Below w.heap.size w w':=by
 have HE:=Lib.hid (show rRound a=tellB (((q.floor:Int):Rat)+1) by rw [rRound,rUn,hq];simp only [roundQ,hs,hi];rfl)
 have HS:=Lib.hid hs
 obtain⟨bi,hbi,rfl⟩:∃b:Bool,decide (((q.floor:Rat)/((2:Int):Rat)).den=1)=b∧b=false:=⟨_,rfl,by rw [show (q.floor:Rat)/((2:Int):Rat)=(q.floor:Rat)*(1/2) by rw [Rat.div_def,Rat.div_def,Rat.one_mul];rfl];simpa using hi⟩
 have HI:=Lib.hid hbi
 clear hs hbi hi
 have HA:=Lib.hid ha
 have HQ:=Lib.hid hq
 clear ha hq
 have HF0:=Lib.hid (show Fr [] (w.heap.size) w from(Fr.nil (by simp)))
 go_enter Tryz.func40,Tryz.ntmps40
 go_wp2_with fail
 refine(q_Read_yes (P:=fun _=>True) HQ.out HA.out (fun _ _=>trivial)).mono ?_
 rintro e w1 ⟨r1,rfl,hr1,hb1⟩
 have HR1:=Lib.hid hr1;clear hr1
 have HF1:=fgo w1 HF0
 have hz1:=HF1.out.1
 have HFb1:=Lib.hid (HF1.out.new3 (.bool r1.b) (.slice r1.nA r1.nn r1.nc) (.slice r1.dA r1.dn r1.dc) 60)
 go_wp2_with fail
 refine(q_Down (P:=fun _=>True) (HR1.out.below blq) (by decide) (fun _ _=>trivial)).mono ?_
 rintro e w2 ⟨l,rfl,hl,hb2⟩
 have HL:=Lib.hid hl;clear hl
 have HF2:=fgo w2 HFb1
 have hz2:=HF2.out.1
 have hx2_0:w1.heap.size<w2.heap.size:=(by omega)
 obtain⟨_,_,_,-⟩:=HF2.out.alls 0 3
 have HLG:=Lib.hid (HL.out.gap 1)
 have HFb2:=Lib.hid (HF2.out.new3 (.bool l.b) (.slice l.nA l.nn l.nc) (.slice l.dA l.dn l.dc) 60)
 go_wp2_with fail
 refine(q_Of (P:=fun _=>True) 1 (by decide) (by decide) (fun _ _=>trivial)).mono ?_
 rintro e w3 ⟨u1,rfl,hu1,hb3⟩
 have HU1:=Lib.hid hu1;clear hu1
 have HF3:=fgo w3 HFb2
 have hz3:=HF3.out.1
 have hx3_0:w1.heap.size<w3.heap.size:=(by omega)
 have hx3_1:w2.heap.size<w3.heap.size:=(by omega)
 obtain⟨_,_,_,_,_,_,-⟩:=HF3.out.alls 0 6
 go_wp2_with fail
 refine(q_Of (P:=fun _=>True) 2 (by decide) (by decide) (fun _ _=>trivial)).mono ?_
 rintro e w4 ⟨u2,rfl,hu2,hb4⟩
 have HU2:=Lib.hid hu2;clear hu2
 have HF4:=fgo w4 HF3
 have hz4:=HF4.out.1
 have hx4_0:w1.heap.size<w4.heap.size:=(by omega)
 have hx4_1:w2.heap.size<w4.heap.size:=(by omega)
 obtain⟨_,_,_,_,_,_,-⟩:=HF4.out.alls 0 6
 go_wp2_with fail
 refine(q_Over (P:=fun _=>True) (HU1.out.below blq) (HU2.out.below blq) (by decide) (fun _ _=>trivial) (by decide)).mono ?_
 rintro e w5 ⟨h,rfl,hh,hb5⟩
 have HH:=Lib.hid hh;clear hh
 have HF5:=fgo w5 HF4
 have hz5:=HF5.out.1
 have hx5_0:w1.heap.size<w5.heap.size:=(by omega)
 have hx5_1:w2.heap.size<w5.heap.size:=(by omega)
 obtain⟨_,_,_,_,_,_,-⟩:=HF5.out.alls 0 6
 have HHF:=Lib.hid (show IsQ (fun _=>True) (5+5) _ h (1/2)from HH.out)
 have HFb5:=Lib.hid (HF5.out.new3 (.bool h.b) (.slice h.nA h.nn h.nc) (.slice h.dA h.dn h.dc) 60)
 go_wp2_with fail
 refine OrdL.begin_ (S:=fun W=>W.cell? ⟨w5.heap.size,0,none⟩=some (.bool h.b)∧W.cell? ⟨w5.heap.size,1,none⟩=some (.slice h.nA h.nn h.nc)∧W.cell? ⟨w5.heap.size,2,none⟩=some (.slice h.dA h.dn h.dc)∧W.cell? ⟨w2.heap.size,0,none⟩=some (.bool l.b)∧W.cell? ⟨w2.heap.size,1,none⟩=some (.slice l.nA l.nn l.nc)∧W.cell? ⟨w2.heap.size,2,none⟩=some (.slice l.dA l.dn l.dc)∧W.cell? ⟨w1.heap.size,0,none⟩=some (.bool r1.b)∧W.cell? ⟨w1.heap.size,1,none⟩=some (.slice r1.nA r1.nn r1.nc)∧W.cell? ⟨w1.heap.size,2,none⟩=some (.slice r1.dA r1.dn r1.dc)) [] [5] (by kernel_rfl) ?_ (fun hHeld=>?_)
 focus ((try dsimp only);exact(HFb5.out.go blq).all 0 9)
 refine OrdL.tk 0 (some 22) ?_
 refine nw ?_
 refine OrdL.tk 1 (some 23) ?_
 refine nw ?_
 refine OrdL.tk 3 (some 25) ?_
 refine nw ?_
 refine OrdL.st 2 fun Kc hKc=>?_
 refine nv ?_
 go_simp
 refine(q_Minus (P:=fun _=>True) (K:=76) ((HR1.out.wide (by decide)).below blq) (HL.out.below blq) (by decide) (fun _ _=>trivial)).mono ?_
 rintro e w6 ⟨d,rfl,hd,hb6⟩
 have HD:=Lib.hid hd;clear hd
 have HF6:=fgo w6 HFb5
 have hz6:=HF6.out.1
 have hx6_0:w1.heap.size<w6.heap.size:=(by omega)
 have hx6_1:w2.heap.size<w6.heap.size:=(by omega)
 have hx6_2:w5.heap.size<w6.heap.size:=(by omega)
 obtain⟨_,_,_,_,_,_,_,_,_,-⟩:=HF6.out.alls 0 9
 go_wp2_with fail
 refine hKc.out _ _ ?_ (fun hHeld=>?_)
 focus ((try dsimp only);exact(HF6.out.go blq).all 0 9)
 clear hKc Kc
 refine nw ?_
 refine OrdL.st 4 fun Kc hKc=>?_
 refine nv ?_
 go_simp
 refine(q_Against (P:=fun _=>True) (K:=76+76+1) (HD.out.below blq) ((HHF.out.wide (by decide)).below blq) (by decide) (fun _ _=>trivial) HS.out).mono ?_
 rintro e w7 ⟨rfl,hb7⟩
 have HF7:=fgo w7 HF6
 have hz7:=HF7.out.1
 have hx7_0:w1.heap.size<w7.heap.size:=(by omega)
 have hx7_1:w2.heap.size<w7.heap.size:=(by omega)
 have hx7_2:w5.heap.size<w7.heap.size:=(by omega)
 obtain⟨_,_,_,_,_,_,_,_,_,-⟩:=HF7.out.alls 0 9
 go_wp2_with fail
 refine hKc.out _ _ ?_ (fun hHeld=>?_)
 focus ((try dsimp only);exact(HF7.out.go blq).all 0 9)
 clear hKc Kc
 refine nw ?_
 refine OrdL.last (i:=5) rfl (by decide) (by decide) (by kernel_rfl) (fun Kc hKc=>?_)
 refine nv ?_
 go_simp
 refine hKc.out _ _ ?_
 clear hKc Kc
 refine nw ?_
 refine OrdL.done (by kernel_rfl) ?_ _
 go_wp2_with fail
 refine OrdL.begin_ (S:=fun W=>W.cell? ⟨w5.heap.size,0,none⟩=some (.bool h.b)∧W.cell? ⟨w5.heap.size,1,none⟩=some (.slice h.nA h.nn h.nc)∧W.cell? ⟨w5.heap.size,2,none⟩=some (.slice h.dA h.dn h.dc)∧W.cell? ⟨w2.heap.size,0,none⟩=some (.bool l.b)∧W.cell? ⟨w2.heap.size,1,none⟩=some (.slice l.nA l.nn l.nc)∧W.cell? ⟨w2.heap.size,2,none⟩=some (.slice l.dA l.dn l.dc)∧W.cell? ⟨w1.heap.size,0,none⟩=some (.bool r1.b)∧W.cell? ⟨w1.heap.size,1,none⟩=some (.slice r1.nA r1.nn r1.nc)∧W.cell? ⟨w1.heap.size,2,none⟩=some (.slice r1.dA r1.dn r1.dc)) [] [5] (by kernel_rfl) ?_ (fun hHeld=>?_)
 focus ((try dsimp only);exact(HF7.out.go blq).all 0 9)
 refine OrdL.tk 0 (some 27) ?_
 refine nw ?_
 refine OrdL.st 1 fun Kc hKc=>?_
 refine nv ?_
 go_simp
 refine(q_Of (P:=fun _=>True) 2 (by decide) (by decide) (fun _ _=>trivial)).mono ?_
 rintro e w8 ⟨u3,rfl,hu3,hb8⟩
 have HU3:=Lib.hid hu3;clear hu3
 have HF8:=fgo w8 HF7
 have hz8:=HF8.out.1
 have hx8_0:w1.heap.size<w8.heap.size:=(by omega)
 have hx8_1:w2.heap.size<w8.heap.size:=(by omega)
 have hx8_2:w5.heap.size<w8.heap.size:=(by omega)
 obtain⟨_,_,_,_,_,_,_,_,_,-⟩:=HF8.out.alls 0 9
 go_wp2_with fail
 refine hKc.out _ _ ?_ (fun hHeld=>?_)
 focus ((try dsimp only);exact(HF8.out.go blq).all 0 9)
 clear hKc Kc
 refine nw ?_
 refine OrdL.st 2 fun Kc hKc=>?_
 refine nv ?_
 go_simp
 refine(q_Over (P:=fun _=>True) (K:=76) (HL.out.below blq) ((HU3.out.wide (by decide)).below blq) (by decide) (fun _ _=>trivial) (by decide)).mono ?_
 rintro e w9 ⟨m,rfl,hm,hb9⟩
 have HM:=Lib.hid hm;clear hm
 have HF9:=fgo w9 HF8
 have hz9:=HF9.out.1
 have hx9_0:w1.heap.size<w9.heap.size:=(by omega)
 have hx9_1:w2.heap.size<w9.heap.size:=(by omega)
 have hx9_2:w5.heap.size<w9.heap.size:=(by omega)
 obtain⟨_,_,_,_,_,_,_,_,_,-⟩:=HF9.out.alls 0 9
 go_wp2_with fail
 refine hKc.out _ _ ?_ (fun hHeld=>?_)
 focus ((try dsimp only);exact(HF9.out.go blq).all 0 9)
 clear hKc Kc
 refine nw ?_
 refine OrdL.st 3 fun Kc hKc=>?_
 refine nv ?_
 go_simp
 refine(q_Whole' (K:=76+76) (HM.out.below blq) (by decide) HI.out).mono ?_
 rintro e w10 ⟨rfl,hb10⟩
 have HF10:=fgo w10 HF9
 have hz10:=HF10.out.1
 have hx10_0:w1.heap.size<w10.heap.size:=(by omega)
 have hx10_1:w2.heap.size<w10.heap.size:=(by omega)
 have hx10_2:w5.heap.size<w10.heap.size:=(by omega)
 obtain⟨_,_,_,_,_,_,_,_,_,-⟩:=HF10.out.alls 0 9
 go_wp2_with fail
 refine hKc.out _ _ ?_ (fun hHeld=>?_)
 focus ((try dsimp only);exact(HF10.out.go blq).all 0 9)
 clear hKc Kc
 refine nw ?_
 refine OrdL.tk 4 (some 31) ?_
 refine nw ?_
 refine OrdL.last (i:=5) rfl (by decide) (by decide) (by kernel_rfl) (fun Kc hKc=>?_)
 refine nv ?_
 go_simp
 refine hKc.out _ _ ?_
 clear hKc Kc
 refine nw ?_
 refine OrdL.done (by kernel_rfl) ?_ _
 go_wp2_with fail
 refine OrdL.begin_ (S:=fun W=>W.cell? ⟨w5.heap.size,0,none⟩=some (.bool h.b)∧W.cell? ⟨w5.heap.size,1,none⟩=some (.slice h.nA h.nn h.nc)∧W.cell? ⟨w5.heap.size,2,none⟩=some (.slice h.dA h.dn h.dc)∧W.cell? ⟨w2.heap.size,0,none⟩=some (.bool l.b)∧W.cell? ⟨w2.heap.size,1,none⟩=some (.slice l.nA l.nn l.nc)∧W.cell? ⟨w2.heap.size,2,none⟩=some (.slice l.dA l.dn l.dc)∧W.cell? ⟨w1.heap.size,0,none⟩=some (.bool r1.b)∧W.cell? ⟨w1.heap.size,1,none⟩=some (.slice r1.nA r1.nn r1.nc)∧W.cell? ⟨w1.heap.size,2,none⟩=some (.slice r1.dA r1.dn r1.dc)) [] [3] (by kernel_rfl) ?_ (fun hHeld=>?_)
 focus ((try dsimp only);exact(HF10.out.go blq).all 0 9)
 refine OrdL.tk 0 (some 41) ?_
 refine nw ?_
 refine OrdL.st 1 fun Kc hKc=>?_
 refine nv ?_
 go_simp
 refine(q_Of (P:=Gp (fun _=>True) (w2.heap.size) 1) 1 (by decide) (by decide) (gap_fresh (fun _ _=>trivial) blq arq)).mono ?_
 rintro e w11 ⟨v1,rfl,hv1,hb11⟩
 have HV1:=Lib.hid hv1;clear hv1
 have HF11:=fgo w11 HF10
 have hz11:=HF11.out.1
 have hx11_0:w1.heap.size<w11.heap.size:=(by omega)
 have hx11_1:w2.heap.size<w11.heap.size:=(by omega)
 have hx11_2:w5.heap.size<w11.heap.size:=(by omega)
 obtain⟨_,_,_,_,_,_,_,_,_,-⟩:=HF11.out.alls 0 9
 go_wp2_with fail
 refine hKc.out _ _ ?_ (fun hHeld=>?_)
 focus ((try dsimp only);exact(HF11.out.go blq).all 0 9)
 clear hKc Kc
 refine nw ?_
 refine OrdL.st 2 fun Kc hKc=>?_
 refine nv ?_
 go_simp
 refine(q_Plus (P:=Gp (fun _=>True) (w2.heap.size) 1) (K:=76) (HLG.out.below blq) ((HV1.out.wide (by decide)).below blq) (by decide) (gap_fresh (fun _ _=>trivial) blq arq)).mono ?_
 rintro e w12 ⟨r,rfl,hr,hb12⟩
 have HR:=Lib.hid hr;clear hr
 have HF12:=fgo w12 HF11
 have hz12:=HF12.out.1
 have hx12_0:w1.heap.size<w12.heap.size:=(by omega)
 have hx12_1:w2.heap.size<w12.heap.size:=(by omega)
 have hx12_2:w5.heap.size<w12.heap.size:=(by omega)
 obtain⟨_,_,_,_,_,_,_,_,_,-⟩:=HF12.out.alls 0 9
 obtain⟨_,_,_,-⟩:=HF12.out.falls 3 3
 go_wp2_with fail
 refine hKc.out _ _ ?_ (fun hHeld=>?_)
 focus ((try dsimp only);exact(HF12.out.go blq).all 0 9)
 clear hKc Kc
 refine nw ?_
 refine OrdL.last (i:=3) rfl (by decide) (by decide) (by kernel_rfl) (fun Kc hKc=>?_)
 refine nv ?_
 go_simp
 refine hKc.out _ _ ?_
 clear hKc Kc
 refine nw ?_
 refine OrdL.done (by kernel_rfl) ?_ _
 go_wp2_with fail
 refine(q_Out (P:=fun _=>True) (K:=76+76+1) (x:=r) (q:=(q.floor:Rat)+1) ?hr (by decide)).mono ?_
 case hr=>exact (((HR.out.put _ arq arq).put _ arq arq).put _ arq arq).ungap
 rintro e wz ⟨rfl,hbz⟩
 go_wp2_with fail
 go_ret2
 exact⟨by rw [HE.out];rfl,blq⟩
theorem q_rRound(a:ByteArray)(ha:a.size≤140737488351232) :
 Calls Tryz.prog 40 #[.string a] w fun e w'=>e=.returned (.tuple #[.string (rRound a).1,.int .i64 (rRound a).2])∧Below w.heap.size w w':=by
 cases hq:numB a with
 | none=>exact q_rRound_n a ha hq
 | some q =>
  rcases Int.lt_trichotomy (q-(q.floor:Rat)-1/2).num 0 with h|h|h
  · exact q_rRound_l a ha hq (Int.sign_eq_neg_one_of_neg h)
  · by_cases hi:((q.floor:Rat)*(1/2)).den=1
    · exact q_rRound_e a ha hq (by rw [h];rfl) hi
    · exact q_rRound_o a ha hq (by rw [h];rfl) hi
  · exact q_rRound_g a ha hq (Int.sign_eq_one_of_pos h)
end
end Go.Proofs.YtpdghgfbfmaplaaGreatDoor.Rf
end
