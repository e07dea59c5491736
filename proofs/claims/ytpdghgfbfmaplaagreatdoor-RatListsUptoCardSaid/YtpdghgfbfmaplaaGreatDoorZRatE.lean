/- Lemmas for RatLists. -/
import Derived.Test.YtpdghgfbfmaplaaGreatDoorZFrW
set_option maxRecDepth 100000
set_option maxHeartbeats 8000000
section
set_option linter.unusedVariables false
set_option linter.unusedSimpArgs false
namespace Go.Proofs.YtpdghgfbfmaplaaGreatDoor.Wh
open Go.RowKit Go.Proofs.YtpdghgfbfmaplaaGreatDoorW.PrintWords Go.Proofs.YtpdghgfbfmaplaaGreatDoor.Num Go.Proofs.YtpdghgfbfmaplaaGreatDoor.Dec
section
variable {w:World}
theorem c_parsed_yes(a b:ByteArray)(ha:a.size≤140737488351232)(hb:b.size≤140737488351232){q p:Rat}(hq:numB a=some q)(hp:numB b=some p) :
 Calls Tryz.prog 45 #[.slice (some ⟨w.heap.size,0,none⟩) 2 2] (w.alloc (.cells #[.string a,.string b] 9)) fun e w'=>∃(x y:FV) (g c:Nat),e=.returned (.tuple #[.slice (some ⟨g,0,none⟩) 2 c,.bool true])∧Fr [(g,0,(.bool x.num.b)),(g,1,(.slice x.num.A x.num.n x.num.c)),(g,2,(.bool x.den.b)),(g,3,(.slice x.den.A x.den.n x.den.c)),(g,4,(.bool y.num.b)),(g,5,(.slice y.num.A y.num.n y.num.c)),(g,6,(.bool y.den.b)),(g,7,(.slice y.den.A y.den.n y.den.c))] (g+1) w'∧IsF (fun _=>True) 34 w' x q∧IsF (fun _=>True) 34 w' y p∧Below (w.alloc (.cells #[.string a,.string b] 9)).heap.size (w.alloc (.cells #[.string a,.string b] 9)) w':=by
 refine(c_parsed (P:=fun _=>True) [a,b] (strs_two w a b) (by simp) (by intro s hs;simp at hs;rcases hs with rfl|rfl;exact ha;exact hb) (fun _ _=>trivial)).mono ?_
 rintro e w' ⟨⟨qs,xs,v,h,rfl,hR,hFs⟩|⟨hn,rfl⟩,hb1⟩
 · obtain⟨q',p',h1,h2,rfl⟩:=numsB_two h;rw [hq]at h1;rw [hp]at h2;cases h1;cases h2;obtain⟨x,y,rfl⟩:∃x y,xs= [x,y]:=by
    match xs,hFs.1 with
    | [x,y],_=>exact ⟨x,y,rfl⟩
   obtain⟨g,c,rfl,hfr⟩:=two_row hR;exact⟨x,y,g,c,rfl,hfr,hFs.2 0 x q rfl rfl,hFs.2 1 y p rfl rfl,hb1⟩
 · rcases numsB_two_none hn with h|h
   · rw [hq]at h;cases h
   · rw [hp]at h;cases h
theorem c_parsed_no(a b:ByteArray)(ha:a.size≤140737488351232)(hb:b.size≤140737488351232)(hq:numB a=none∨numB b=none) :
 Calls Tryz.prog 45 #[.slice (some ⟨w.heap.size,0,none⟩) 2 2] (w.alloc (.cells #[.string a,.string b] 9)) fun e w'=>e=.returned (.tuple #[.slice none 0 0,.bool false])∧Below (w.alloc (.cells #[.string a,.string b] 9)).heap.size (w.alloc (.cells #[.string a,.string b] 9)) w':=by
 refine(c_parsed (P:=fun _=>True) [a,b] (strs_two w a b) (by simp) (by intro s hs;simp at hs;rcases hs with rfl|rfl;exact ha;exact hb) (fun _ _=>trivial)).mono ?_
 rintro e w' ⟨⟨qs,xs,v,h,rfl,hR,hFs⟩|⟨hn,rfl⟩,hb1⟩
 · obtain⟨q',p',h1,h2,rfl⟩:=numsB_two h;rcases hq with h|h
   · rw [h]at h1;cases h1
   · rw [h]at h2;cases h2
 · exact⟨rfl,hb1⟩
theorem c_FMultiple'{P:Nat→Prop}{K:Nat}{x y:FV}{q p:Rat}{b:Bool}(hx:IsF P K w x q)(hy:IsF P K w y p)(hp:p≠0)(hK:K≤100000000)(hP:∀k,w.heap.size≤k→P k)(hb:decide (0≤q.num∧(q/p).den=1)=b) :
 Calls Tryz.prog 55 #[.agg #[.bool x.num.b,.slice x.num.A x.num.n x.num.c,.bool x.den.b,.slice x.den.A x.den.n x.den.c],.agg #[.bool y.num.b,.slice y.num.A y.num.n y.num.c,.bool y.den.b,.slice y.den.A y.den.n y.den.c]] w fun e w'=>e=.returned (.bool b)∧Below w.heap.size w w':=hb▸c_FMultiple hx hy hp hK hP
theorem c_rIs'{b:Bool}(a:ByteArray)(ha:a.size≤140737488351232)(hb:rIs a=b):Calls Tryz.prog 18 #[.string a] w fun e w'=>e=.returned (.bool b)∧Below w.heap.size w w':=hb▸c_rIs a ha
theorem c_FCmp'{P:Nat→Prop}{K:Nat}{x y:FV}{q p:Rat}{b:Int}(hx:IsF P K w x q)(hy:IsF P K w y p)(hK:K≤100000000)(hP:∀k,w.heap.size≤k→P k)(hb:(q-p).num.sign=b) :
 Calls Tryz.prog 46 #[.agg #[.bool x.num.b,.slice x.num.A x.num.n x.num.c,.bool x.den.b,.slice x.den.A x.den.n x.den.c],.agg #[.bool y.num.b,.slice y.num.A y.num.n y.num.c,.bool y.den.b,.slice y.den.A y.den.n y.den.c]] w fun e w'=>e=.returned (.int .i64 b)∧Below w.heap.size w w':=hb▸c_FCmp hx hy hK hP
theorem IsF.setx{P:Nat→Prop}{g K:Nat}{x:FV}{q:Rat}(h:IsF (Ex P g) K w x q)(j:Nat)(u:Value):IsF (Ex P g) K (w.setCell ⟨g,j,none⟩ u) x q:=⟨h.1.set j u,h.2.set j u⟩
theorem floor_q(q:Rat):(q.floor:Int)=q.num/(q.den:Int):=Rat.floor_def q
theorem c_rFloor_n(a:ByteArray)(ha:a.size≤140737488351232)(hq:numB a=none) :
 Calls Tryz.prog 37 #[.string a] w fun e w'=>e=.returned (.tuple #[.string (rFloor a).1,.int .i64 (rFloor a).2])∧Below w.heap.size w w':=by
 have HA:=Lib.hid ha
 clear ha
 have HQ:=Lib.hid hq
 have HE:=Lib.hid (show rFloor a=(nob,1) by rw [rFloor,rUn,hq])
 clear hq
 have HF0:=Lib.hid (show Fr [] (w.heap.size) w from(Fr.nil (by simp)))
 go_enter Tryz.func37,Tryz.ntmps37
 go_wp2_with fail
 refine(c_FP (P:=fun _=>True) a HA.out (fun _ _=>trivial)).mono ?_
 rintro e w1 ⟨x,rfl,hx,hb1⟩
 have HF1:=fgo w1 HF0
 have hz1:=HF1.out.1
 rw [HQ.out]
 simp only [Option.isSome_none]
 go_wp2_with fail
 go_ret2
 exact⟨by rw [HE.out];rfl,blq⟩
theorem c_rFloor_y(a:ByteArray)(ha:a.size≤140737488351232){q:Rat}(hq:numB a=some q) :
 Calls Tryz.prog 37 #[.string a] w fun e w'=>e=.returned (.tuple #[.string (rFloor a).1,.int .i64 (rFloor a).2])∧Below w.heap.size w w':=by
 have HA:=Lib.hid ha
 clear ha
 have HQ:=Lib.hid hq
 have HE:=Lib.hid (show rFloor a=tellB (((q.num/(q.den:Int):Int)):Rat) by rw [rFloor,rUn,hq];simp only [floor_q])
 clear hq
 have HF0:=Lib.hid (show Fr [] (w.heap.size) w from(Fr.nil (by simp)))
 go_enter Tryz.func37,Tryz.ntmps37
 go_wp2_with fail
 refine(c_FP (P:=fun _=>True) a HA.out (fun _ _=>trivial)).mono ?_
 rintro e w1 ⟨x,rfl,hx,hb1⟩
 have HF1:=fgo w1 HF0
 have hz1:=HF1.out.1
 rw [HQ.out]
 simp only [Option.isSome_some]
 have HX:=Lib.hid (hx q HQ.out)
 clear hx
 have HFb1:=Lib.hid (HF1.out.new4 (.bool x.num.b) (.slice x.num.A x.num.n x.num.c) (.bool x.den.b) (.slice x.den.A x.den.n x.den.c) 52)
 go_wp2_with fail
 refine(c_FFloor (P:=fun _=>True) (HX.out.below blq) (by omega) (fun _ _=>trivial)).mono ?_
 rintro e w2 ⟨r,rfl,hr,hb2⟩
 have HR:=Lib.hid hr;clear hr
 have HF2:=fgo w2 HFb1
 have hz2:=HF2.out.1
 have hx2_0:w1.heap.size<w2.heap.size:=(by omega)
 obtain⟨_,_,_,_,-⟩:=HF2.out.alls 0 4
 go_wp2_with fail
 refine(c_told (HR.out.below blq) (by omega)).mono ?_
 rintro e w3 ⟨rfl,hb3⟩
 have HF3:=fgo w3 HF2
 have hz3:=HF3.out.1
 have hx3_0:w1.heap.size<w3.heap.size:=(by omega)
 obtain⟨_,_,_,_,-⟩:=HF3.out.alls 0 4
 go_wp2_with fail
 go_ret2
 exact⟨by rw [HE.out];rfl,blq⟩
theorem c_rFloor(a:ByteArray)(ha:a.size≤140737488351232) :
 Calls Tryz.prog 37 #[.string a] w fun e w'=>e=.returned (.tuple #[.string (rFloor a).1,.int .i64 (rFloor a).2])∧Below w.heap.size w w':=by
 cases hq:numB a with
 | none=>exact c_rFloor_n a ha hq
 | some q=>exact c_rFloor_y a ha hq
theorem c_rRound_n(a:ByteArray)(ha:a.size≤140737488351232)(hq:numB a=none) :
 Calls Tryz.prog 39 #[.string a] w fun e w'=>e=.returned (.tuple #[.string (rRound a).1,.int .i64 (rRound a).2])∧Below w.heap.size w w':=by
 have HA:=Lib.hid ha
 clear ha
 have HQ:=Lib.hid hq
 have HE:=Lib.hid (show rRound a=(nob,1) by rw [rRound,rUn,hq])
 clear hq
 have HF0:=Lib.hid (show Fr [] (w.heap.size) w from(Fr.nil (by simp)))
 go_enter Tryz.func39,Tryz.ntmps39
 go_wp2_with fail
 refine(c_FP (P:=fun _=>True) a HA.out (fun _ _=>trivial)).mono ?_
 rintro e w1 ⟨x,rfl,hx,hb1⟩
 have HF1:=fgo w1 HF0
 have hz1:=HF1.out.1
 rw [HQ.out]
 simp only [Option.isSome_none]
 go_wp2_with fail
 go_ret2
 exact⟨by rw [HE.out];rfl,blq⟩
theorem c_rRound_l(a:ByteArray)(ha:a.size≤140737488351232){q:Rat}(hq:numB a=some q)(hs:(q-(q.floor:Rat)-1/2).num.sign= -1) :
 Calls Tryz.prog 39 #[.string a] w fun e w'=>e=.returned (.tuple #[.string (rRound a).1,.int .i64 (rRound a).2])∧Below w.heap.size w w':=by
 have HA:=Lib.hid ha
 clear ha
 have HQ:=Lib.hid hq
 have HS:=Lib.hid hs
 have HE:=Lib.hid (show rRound a=tellB (((q.floor:Int):Rat)) by rw [rRound,rUn,hq];simp only [roundQ,hs];rfl)
 clear hq hs
 have HF0:=Lib.hid (show Fr [] (w.heap.size) w from(Fr.nil (by simp)))
 go_enter Tryz.func39,Tryz.ntmps39
 go_wp2_with fail
 refine(c_FP (P:=fun _=>True) a HA.out (fun _ _=>trivial)).mono ?_
 rintro e w1 ⟨x,rfl,hx,hb1⟩
 have HF1:=fgo w1 HF0
 have hz1:=HF1.out.1
 rw [HQ.out]
 simp only [Option.isSome_some]
 have HX:=Lib.hid (hx q HQ.out)
 clear hx
 have HFb1:=Lib.hid (HF1.out.new4 (.bool x.num.b) (.slice x.num.A x.num.n x.num.c) (.bool x.den.b) (.slice x.den.A x.den.n x.den.c) 52)
 go_wp2_with fail
 refine(c_FOf (P:=fun _=>True) 1 (by omega) (by omega) (fun _ _=>trivial)).mono ?_
 rintro e w2 ⟨u1,rfl,hu1,hb2⟩
 have HU1:=Lib.hid hu1;clear hu1
 have HF2:=fgo w2 HFb1
 have hz2:=HF2.out.1
 have hx2_0:w1.heap.size<w2.heap.size:=(by omega)
 obtain⟨_,_,_,_,-⟩:=HF2.out.alls 0 4
 go_wp2_with fail
 refine(c_FOf (P:=fun _=>True) 2 (by omega) (by omega) (fun _ _=>trivial)).mono ?_
 rintro e w3 ⟨u2,rfl,hu2,hb3⟩
 have HU2:=Lib.hid hu2;clear hu2
 have HF3:=fgo w3 HF2
 have hz3:=HF3.out.1
 have hx3_0:w1.heap.size<w3.heap.size:=(by omega)
 obtain⟨_,_,_,_,-⟩:=HF3.out.alls 0 4
 go_wp2_with fail
 refine(c_FDiv (P:=fun _=>True) (HU1.out.below blq) (HU2.out.below blq) (by decide) (by omega) (fun _ _=>trivial)).mono ?_
 rintro e w4 ⟨h,rfl,hh,hb4⟩
 have HH:=Lib.hid hh;clear hh
 have HF4:=fgo w4 HF3
 have hz4:=HF4.out.1
 have hx4_0:w1.heap.size<w4.heap.size:=(by omega)
 obtain⟨_,_,_,_,-⟩:=HF4.out.alls 0 4
 have HFb4:=Lib.hid (HF4.out.new4 (.bool h.num.b) (.slice h.num.A h.num.n h.num.c) (.bool h.den.b) (.slice h.den.A h.den.n h.den.c) 52)
 go_wp2_with fail
 refine(c_FFloor (P:=fun _=>True) (HX.out.below blq) (by omega) (fun _ _=>trivial)).mono ?_
 rintro e w5 ⟨l,rfl,hl,hb5⟩
 have HF5:=fgo w5 HFb4
 have hz5:=HF5.out.1
 have hx5_0:w1.heap.size<w5.heap.size:=(by omega)
 have hx5_1:w4.heap.size<w5.heap.size:=(by omega)
 obtain⟨_,_,_,_,_,_,_,_,-⟩:=HF5.out.alls 0 8
 have HLW:=Lib.hid (show IsF (fun _=>True) 35 _ l ((q.floor:Int):Rat)from (by rw [floor_q];exact hl.wide (by omega)))
 clear hl
 have HFb5:=Lib.hid (HF5.out.new4 (.bool l.num.b) (.slice l.num.A l.num.n l.num.c) (.bool l.den.b) (.slice l.den.A l.den.n l.den.c) 52)
 have HHF:=Lib.hid (show IsF (fun _=>True) (3+3+1) _ h (1/2)from HH.out)
 go_wp2_with fail
 refine OrdL.begin_ (S:=fun W=>W.cell? ⟨w5.heap.size,0,none⟩=some (.bool l.num.b)∧W.cell? ⟨w5.heap.size,1,none⟩=some (.slice l.num.A l.num.n l.num.c)∧W.cell? ⟨w5.heap.size,2,none⟩=some (.bool l.den.b)∧W.cell? ⟨w5.heap.size,3,none⟩=some (.slice l.den.A l.den.n l.den.c)∧W.cell? ⟨w4.heap.size,0,none⟩=some (.bool h.num.b)∧W.cell? ⟨w4.heap.size,1,none⟩=some (.slice h.num.A h.num.n h.num.c)∧W.cell? ⟨w4.heap.size,2,none⟩=some (.bool h.den.b)∧W.cell? ⟨w4.heap.size,3,none⟩=some (.slice h.den.A h.den.n h.den.c)∧W.cell? ⟨w1.heap.size,0,none⟩=some (.bool x.num.b)∧W.cell? ⟨w1.heap.size,1,none⟩=some (.slice x.num.A x.num.n x.num.c)∧W.cell? ⟨w1.heap.size,2,none⟩=some (.bool x.den.b)∧W.cell? ⟨w1.heap.size,3,none⟩=some (.slice x.den.A x.den.n x.den.c)) [] [5] (by kernel_rfl) ?_ (fun hHeld=>?_)
 focus ((try dsimp only);exact(HFb5.out.go blq).all 0 12)
 refine OrdL.tk 0 (some 21) ?_
 refine nw ?_
 refine OrdL.tk 1 (some 22) ?_
 refine nw ?_
 refine OrdL.tk 3 (some 24) ?_
 refine nw ?_
 refine OrdL.st 2 fun Kc hKc=>?_
 refine nv ?_
 go_simp
 refine(c_FSub (P:=fun _=>True) (K:=35) ((HX.out.wide (by omega)).below blq) (HLW.out.below blq) (by omega) (fun _ _=>trivial)).mono ?_
 rintro e w6 ⟨d,rfl,hd,hb6⟩
 have HD:=Lib.hid hd;clear hd
 have HF6:=fgo w6 HFb5
 have hz6:=HF6.out.1
 have hx6_0:w1.heap.size<w6.heap.size:=(by omega)
 have hx6_1:w4.heap.size<w6.heap.size:=(by omega)
 have hx6_2:w5.heap.size<w6.heap.size:=(by omega)
 obtain⟨_,_,_,_,_,_,_,_,_,_,_,_,-⟩:=HF6.out.alls 0 12
 go_wp2_with fail
 refine hKc.out _ _ ?_ (fun hHeld=>?_)
 focus ((try dsimp only);exact(HF6.out.go blq).all 0 12)
 clear hKc Kc
 refine nw ?_
 refine OrdL.st 4 fun Kc hKc=>?_
 refine nv ?_
 go_simp
 refine(c_FCmp' (P:=fun _=>True) (K:=72) (HD.out.below blq) ((HHF.out.wide (by omega)).below blq) (by omega) (fun _ _=>trivial) HS.out).mono ?_
 rintro e w7 ⟨rfl,hb7⟩
 have HF7:=fgo w7 HF6
 have hz7:=HF7.out.1
 have hx7_0:w1.heap.size<w7.heap.size:=(by omega)
 have hx7_1:w4.heap.size<w7.heap.size:=(by omega)
 have hx7_2:w5.heap.size<w7.heap.size:=(by omega)
 obtain⟨_,_,_,_,_,_,_,_,_,_,_,_,-⟩:=HF7.out.alls 0 12
 go_wp2_with fail
 refine hKc.out _ _ ?_ (fun hHeld=>?_)
 focus ((try dsimp only);exact(HF7.out.go blq).all 0 12)
 clear hKc Kc
 refine nw ?_
 refine OrdL.last (i:=5) rfl (by decide) (by decide) (by kernel_rfl) (fun Kc hKc=>?_)
 refine nv ?_
 go_simp
 refine hKc.out _ _ ?_
 clear hKc Kc
 refine nw ?_
 refine OrdL.done (by kernel_rfl) ?_ _
 go_wp2_with fail
 refine(c_told (HLW.out.below blq) (by omega)).mono ?_
 rintro e w8 ⟨rfl,hb8⟩
 have HF8:=fgo w8 HF7
 have hz8:=HF8.out.1
 have hx8_0:w1.heap.size<w8.heap.size:=(by omega)
 have hx8_1:w4.heap.size<w8.heap.size:=(by omega)
 have hx8_2:w5.heap.size<w8.heap.size:=(by omega)
 obtain⟨_,_,_,_,_,_,_,_,_,_,_,_,-⟩:=HF8.out.alls 0 12
 go_wp2_with fail
 go_ret2
 exact⟨by rw [HE.out];rfl,blq⟩
theorem c_rRound_g(a:ByteArray)(ha:a.size≤140737488351232){q:Rat}(hq:numB a=some q)(hs:(q-(q.floor:Rat)-1/2).num.sign=1) :
 Calls Tryz.prog 39 #[.string a] w fun e w'=>e=.returned (.tuple #[.string (rRound a).1,.int .i64 (rRound a).2])∧Below w.heap.size w w':=by
 have HA:=Lib.hid ha
 clear ha
 have HQ:=Lib.hid hq
 have HS:=Lib.hid hs
 have HE:=Lib.hid (show rRound a=tellB (((q.floor:Int):Rat)+1) by rw [rRound,rUn,hq];simp only [roundQ,hs];rfl)
 clear hq hs
 have HF0:=Lib.hid (show Fr [] (w.heap.size) w from(Fr.nil (by simp)))
 go_enter Tryz.func39,Tryz.ntmps39
 go_wp2_with fail
 refine(c_FP (P:=fun _=>True) a HA.out (fun _ _=>trivial)).mono ?_
 rintro e w1 ⟨x,rfl,hx,hb1⟩
 have HF1:=fgo w1 HF0
 have hz1:=HF1.out.1
 rw [HQ.out]
 simp only [Option.isSome_some]
 have HX:=Lib.hid (hx q HQ.out)
 clear hx
 have HFb1:=Lib.hid (HF1.out.new4 (.bool x.num.b) (.slice x.num.A x.num.n x.num.c) (.bool x.den.b) (.slice x.den.A x.den.n x.den.c) 52)
 go_wp2_with fail
 refine(c_FOf (P:=fun _=>True) 1 (by omega) (by omega) (fun _ _=>trivial)).mono ?_
 rintro e w2 ⟨u1,rfl,hu1,hb2⟩
 have HU1:=Lib.hid hu1;clear hu1
 have HF2:=fgo w2 HFb1
 have hz2:=HF2.out.1
 have hx2_0:w1.heap.size<w2.heap.size:=(by omega)
 obtain⟨_,_,_,_,-⟩:=HF2.out.alls 0 4
 go_wp2_with fail
 refine(c_FOf (P:=fun _=>True) 2 (by omega) (by omega) (fun _ _=>trivial)).mono ?_
 rintro e w3 ⟨u2,rfl,hu2,hb3⟩
 have HU2:=Lib.hid hu2;clear hu2
 have HF3:=fgo w3 HF2
 have hz3:=HF3.out.1
 have hx3_0:w1.heap.size<w3.heap.size:=(by omega)
 obtain⟨_,_,_,_,-⟩:=HF3.out.alls 0 4
 go_wp2_with fail
 refine(c_FDiv (P:=fun _=>True) (HU1.out.below blq) (HU2.out.below blq) (by decide) (by omega) (fun _ _=>trivial)).mono ?_
 rintro e w4 ⟨h,rfl,hh,hb4⟩
 have HH:=Lib.hid hh;clear hh
 have HF4:=fgo w4 HF3
 have hz4:=HF4.out.1
 have hx4_0:w1.heap.size<w4.heap.size:=(by omega)
 obtain⟨_,_,_,_,-⟩:=HF4.out.alls 0 4
 have HFb4:=Lib.hid (HF4.out.new4 (.bool h.num.b) (.slice h.num.A h.num.n h.num.c) (.bool h.den.b) (.slice h.den.A h.den.n h.den.c) 52)
 go_wp2_with fail
 refine(c_FFloor (P:=fun _=>True) (HX.out.below blq) (by omega) (fun _ _=>trivial)).mono ?_
 rintro e w5 ⟨l,rfl,hl,hb5⟩
 have HF5:=fgo w5 HFb4
 have hz5:=HF5.out.1
 have hx5_0:w1.heap.size<w5.heap.size:=(by omega)
 have hx5_1:w4.heap.size<w5.heap.size:=(by omega)
 obtain⟨_,_,_,_,_,_,_,_,-⟩:=HF5.out.alls 0 8
 have HLW:=Lib.hid (show IsF (fun _=>True) 35 _ l ((q.floor:Int):Rat)from (by rw [floor_q];exact hl.wide (by omega)))
 clear hl
 have HFb5:=Lib.hid (HF5.out.new4 (.bool l.num.b) (.slice l.num.A l.num.n l.num.c) (.bool l.den.b) (.slice l.den.A l.den.n l.den.c) 52)
 have HHF:=Lib.hid (show IsF (fun _=>True) (3+3+1) _ h (1/2)from HH.out)
 go_wp2_with fail
 refine OrdL.begin_ (S:=fun W=>W.cell? ⟨w5.heap.size,0,none⟩=some (.bool l.num.b)∧W.cell? ⟨w5.heap.size,1,none⟩=some (.slice l.num.A l.num.n l.num.c)∧W.cell? ⟨w5.heap.size,2,none⟩=some (.bool l.den.b)∧W.cell? ⟨w5.heap.size,3,none⟩=some (.slice l.den.A l.den.n l.den.c)∧W.cell? ⟨w4.heap.size,0,none⟩=some (.bool h.num.b)∧W.cell? ⟨w4.heap.size,1,none⟩=some (.slice h.num.A h.num.n h.num.c)∧W.cell? ⟨w4.heap.size,2,none⟩=some (.bool h.den.b)∧W.cell? ⟨w4.heap.size,3,none⟩=some (.slice h.den.A h.den.n h.den.c)∧W.cell? ⟨w1.heap.size,0,none⟩=some (.bool x.num.b)∧W.cell? ⟨w1.heap.size,1,none⟩=some (.slice x.num.A x.num.n x.num.c)∧W.cell? ⟨w1.heap.size,2,none⟩=some (.bool x.den.b)∧W.cell? ⟨w1.heap.size,3,none⟩=some (.slice x.den.A x.den.n x.den.c)) [] [5] (by kernel_rfl) ?_ (fun hHeld=>?_)
 focus ((try dsimp only);exact(HFb5.out.go blq).all 0 12)
 refine OrdL.tk 0 (some 21) ?_
 refine nw ?_
 refine OrdL.tk 1 (some 22) ?_
 refine nw ?_
 refine OrdL.tk 3 (some 24) ?_
 refine nw ?_
 refine OrdL.st 2 fun Kc hKc=>?_
 refine nv ?_
 go_simp
 refine(c_FSub (P:=fun _=>True) (K:=35) ((HX.out.wide (by omega)).below blq) (HLW.out.below blq) (by omega) (fun _ _=>trivial)).mono ?_
 rintro e w6 ⟨d,rfl,hd,hb6⟩
 have HD:=Lib.hid hd;clear hd
 have HF6:=fgo w6 HFb5
 have hz6:=HF6.out.1
 have hx6_0:w1.heap.size<w6.heap.size:=(by omega)
 have hx6_1:w4.heap.size<w6.heap.size:=(by omega)
 have hx6_2:w5.heap.size<w6.heap.size:=(by omega)
 obtain⟨_,_,_,_,_,_,_,_,_,_,_,_,-⟩:=HF6.out.alls 0 12
 go_wp2_with fail
 refine hKc.out _ _ ?_ (fun hHeld=>?_)
 focus ((try dsimp only);exact(HF6.out.go blq).all 0 12)
 clear hKc Kc
 refine nw ?_
 refine OrdL.st 4 fun Kc hKc=>?_
 refine nv ?_
 go_simp
 refine(c_FCmp' (P:=fun _=>True) (K:=72) (HD.out.below blq) ((HHF.out.wide (by omega)).below blq) (by omega) (fun _ _=>trivial) HS.out).mono ?_
 rintro e w7 ⟨rfl,hb7⟩
 have HF7:=fgo w7 HF6
 have hz7:=HF7.out.1
 have hx7_0:w1.heap.size<w7.heap.size:=(by omega)
 have hx7_1:w4.heap.size<w7.heap.size:=(by omega)
 have hx7_2:w5.heap.size<w7.heap.size:=(by omega)
 obtain⟨_,_,_,_,_,_,_,_,_,_,_,_,-⟩:=HF7.out.alls 0 12
 go_wp2_with fail
 refine hKc.out _ _ ?_ (fun hHeld=>?_)
 focus ((try dsimp only);exact(HF7.out.go blq).all 0 12)
 clear hKc Kc
 refine nw ?_
 refine OrdL.last (i:=5) rfl (by decide) (by decide) (by kernel_rfl) (fun Kc hKc=>?_)
 refine nv ?_
 go_simp
 refine hKc.out _ _ ?_
 clear hKc Kc
 refine nw ?_
 refine OrdL.done (by kernel_rfl) ?_ _
 go_wp2_with fail
 refine OrdL.begin_ (S:=fun W=>W.cell? ⟨w5.heap.size,0,none⟩=some (.bool l.num.b)∧W.cell? ⟨w5.heap.size,1,none⟩=some (.slice l.num.A l.num.n l.num.c)∧W.cell? ⟨w5.heap.size,2,none⟩=some (.bool l.den.b)∧W.cell? ⟨w5.heap.size,3,none⟩=some (.slice l.den.A l.den.n l.den.c)∧W.cell? ⟨w4.heap.size,0,none⟩=some (.bool h.num.b)∧W.cell? ⟨w4.heap.size,1,none⟩=some (.slice h.num.A h.num.n h.num.c)∧W.cell? ⟨w4.heap.size,2,none⟩=some (.bool h.den.b)∧W.cell? ⟨w4.heap.size,3,none⟩=some (.slice h.den.A h.den.n h.den.c)∧W.cell? ⟨w1.heap.size,0,none⟩=some (.bool x.num.b)∧W.cell? ⟨w1.heap.size,1,none⟩=some (.slice x.num.A x.num.n x.num.c)∧W.cell? ⟨w1.heap.size,2,none⟩=some (.bool x.den.b)∧W.cell? ⟨w1.heap.size,3,none⟩=some (.slice x.den.A x.den.n x.den.c)) [] [3] (by kernel_rfl) ?_ (fun hHeld=>?_)
 focus ((try dsimp only);exact(HF7.out.go blq).all 0 12)
 refine OrdL.tk 0 (some 38) ?_
 refine nw ?_
 refine OrdL.st 1 fun Kc hKc=>?_
 refine nv ?_
 go_simp
 refine(c_FOf (P:=Ex (fun _=>True) (w5.heap.size)) 1 (by omega) (by omega) (fun k hk=>⟨trivial,by have hb9:=hk;(try simp at hb9);omega⟩)).mono ?_
 rintro e w8 ⟨v1,rfl,hv1,hb8⟩
 have HV1:=Lib.hid hv1;clear hv1
 have HF8:=fgo w8 HF7
 have hz8:=HF8.out.1
 have hx8_0:w1.heap.size<w8.heap.size:=(by omega)
 have hx8_1:w4.heap.size<w8.heap.size:=(by omega)
 have hx8_2:w5.heap.size<w8.heap.size:=(by omega)
 obtain⟨_,_,_,_,_,_,_,_,_,_,_,_,-⟩:=HF8.out.alls 0 12
 go_wp2_with fail
 refine hKc.out _ _ ?_ (fun hHeld=>?_)
 focus ((try dsimp only);exact(HF8.out.go blq).all 0 12)
 clear hKc Kc
 refine nw ?_
 refine OrdL.st 2 fun Kc hKc=>?_
 refine nv ?_
 go_simp
 refine(c_FAdd (P:=Ex (fun _=>True) (w5.heap.size)) (K:=35) ((HLW.out.ex (Nat.le_refl _)).below blq) ((HV1.out.wide (by omega)).below blq) (by omega) (fun k hk=>⟨trivial,by have hb9:=hk;(try simp at hb9);omega⟩)).mono ?_
 rintro e w9 ⟨r,rfl,hr,hb9⟩
 have HR:=Lib.hid hr;clear hr
 have HF9:=fgo w9 HF8
 have hz9:=HF9.out.1
 have hx9_0:w1.heap.size<w9.heap.size:=(by omega)
 have hx9_1:w4.heap.size<w9.heap.size:=(by omega)
 have hx9_2:w5.heap.size<w9.heap.size:=(by omega)
 obtain⟨_,_,_,_,_,_,_,_,_,_,_,_,-⟩:=HF9.out.alls 0 12
 obtain⟨_,_,_,_,-⟩:=HF9.out.falls 0 4
 go_wp2_with fail
 refine hKc.out _ _ ?_ (fun hHeld=>?_)
 focus ((try dsimp only);exact(HF9.out.go blq).all 0 12)
 clear hKc Kc
 refine nw ?_
 refine OrdL.last (i:=3) rfl (by decide) (by decide) (by kernel_rfl) (fun Kc hKc=>?_)
 refine nv ?_
 go_simp
 refine hKc.out _ _ ?_
 clear hKc Kc
 refine nw ?_
 refine OrdL.done (by kernel_rfl) ?_ _
 go_wp2_with fail
 refine(c_told (P:=fun _=>True) (K:=35+35+2) (x:=r) (q:=(q.floor:Rat)+1) ?hr (by omega)).mono ?_
 case hr=>exact IsF.mono ((((HR.out.setx _ _).setx _ _).setx _ _).setx _ _) (fun _ hk=>hk.1)
 rintro e wz ⟨rfl,hbz⟩
 go_wp2_with fail
 go_ret2
 exact⟨by rw [HE.out];rfl,blq⟩
theorem c_rRound_e(a:ByteArray)(ha:a.size≤140737488351232){q:Rat}(hq:numB a=some q)(hs:(q-(q.floor:Rat)-1/2).num.sign=0)(hi:((q.floor:Rat)*(1/2)).den=1) :
 Calls Tryz.prog 39 #[.string a] w fun e w'=>e=.returned (.tuple #[.string (rRound a).1,.int .i64 (rRound a).2])∧Below w.heap.size w w':=by
 have HA:=Lib.hid ha
 clear ha
 have HQ:=Lib.hid hq
 have HS:=Lib.hid hs
 have HI:=Lib.hid (show decide (((q.floor:Rat)*(1/2)).den=1)=true from decide_eq_true hi)
 have HE:=Lib.hid (show rRound a=tellB (((q.floor:Int):Rat)) by rw [rRound,rUn,hq];simp only [roundQ,hs,hi];rfl)
 clear hq hs hi
 have HF0:=Lib.hid (show Fr [] (w.heap.size) w from(Fr.nil (by simp)))
 go_enter Tryz.func39,Tryz.ntmps39
 go_wp2_with fail
 refine(c_FP (P:=fun _=>True) a HA.out (fun _ _=>trivial)).mono ?_
 rintro e w1 ⟨x,rfl,hx,hb1⟩
 have HF1:=fgo w1 HF0
 have hz1:=HF1.out.1
 rw [HQ.out]
 simp only [Option.isSome_some]
 have HX:=Lib.hid (hx q HQ.out)
 clear hx
 have HFb1:=Lib.hid (HF1.out.new4 (.bool x.num.b) (.slice x.num.A x.num.n x.num.c) (.bool x.den.b) (.slice x.den.A x.den.n x.den.c) 52)
 go_wp2_with fail
 refine(c_FOf (P:=fun _=>True) 1 (by omega) (by omega) (fun _ _=>trivial)).mono ?_
 rintro e w2 ⟨u1,rfl,hu1,hb2⟩
 have HU1:=Lib.hid hu1;clear hu1
 have HF2:=fgo w2 HFb1
 have hz2:=HF2.out.1
 have hx2_0:w1.heap.size<w2.heap.size:=(by omega)
 obtain⟨_,_,_,_,-⟩:=HF2.out.alls 0 4
 go_wp2_with fail
 refine(c_FOf (P:=fun _=>True) 2 (by omega) (by omega) (fun _ _=>trivial)).mono ?_
 rintro e w3 ⟨u2,rfl,hu2,hb3⟩
 have HU2:=Lib.hid hu2;clear hu2
 have HF3:=fgo w3 HF2
 have hz3:=HF3.out.1
 have hx3_0:w1.heap.size<w3.heap.size:=(by omega)
 obtain⟨_,_,_,_,-⟩:=HF3.out.alls 0 4
 go_wp2_with fail
 refine(c_FDiv (P:=fun _=>True) (HU1.out.below blq) (HU2.out.below blq) (by decide) (by omega) (fun _ _=>trivial)).mono ?_
 rintro e w4 ⟨h,rfl,hh,hb4⟩
 have HH:=Lib.hid hh;clear hh
 have HF4:=fgo w4 HF3
 have hz4:=HF4.out.1
 have hx4_0:w1.heap.size<w4.heap.size:=(by omega)
 obtain⟨_,_,_,_,-⟩:=HF4.out.alls 0 4
 have HFb4:=Lib.hid (HF4.out.new4 (.bool h.num.b) (.slice h.num.A h.num.n h.num.c) (.bool h.den.b) (.slice h.den.A h.den.n h.den.c) 52)
 go_wp2_with fail
 refine(c_FFloor (P:=fun _=>True) (HX.out.below blq) (by omega) (fun _ _=>trivial)).mono ?_
 rintro e w5 ⟨l,rfl,hl,hb5⟩
 have HF5:=fgo w5 HFb4
 have hz5:=HF5.out.1
 have hx5_0:w1.heap.size<w5.heap.size:=(by omega)
 have hx5_1:w4.heap.size<w5.heap.size:=(by omega)
 obtain⟨_,_,_,_,_,_,_,_,-⟩:=HF5.out.alls 0 8
 have HLW:=Lib.hid (show IsF (fun _=>True) 35 _ l ((q.floor:Int):Rat)from (by rw [floor_q];exact hl.wide (by omega)))
 clear hl
 have HFb5:=Lib.hid (HF5.out.new4 (.bool l.num.b) (.slice l.num.A l.num.n l.num.c) (.bool l.den.b) (.slice l.den.A l.den.n l.den.c) 52)
 have HHF:=Lib.hid (show IsF (fun _=>True) (3+3+1) _ h (1/2)from HH.out)
 go_wp2_with fail
 refine OrdL.begin_ (S:=fun W=>W.cell? ⟨w5.heap.size,0,none⟩=some (.bool l.num.b)∧W.cell? ⟨w5.heap.size,1,none⟩=some (.slice l.num.A l.num.n l.num.c)∧W.cell? ⟨w5.heap.size,2,none⟩=some (.bool l.den.b)∧W.cell? ⟨w5.heap.size,3,none⟩=some (.slice l.den.A l.den.n l.den.c)∧W.cell? ⟨w4.heap.size,0,none⟩=some (.bool h.num.b)∧W.cell? ⟨w4.heap.size,1,none⟩=some (.slice h.num.A h.num.n h.num.c)∧W.cell? ⟨w4.heap.size,2,none⟩=some (.bool h.den.b)∧W.cell? ⟨w4.heap.size,3,none⟩=some (.slice h.den.A h.den.n h.den.c)∧W.cell? ⟨w1.heap.size,0,none⟩=some (.bool x.num.b)∧W.cell? ⟨w1.heap.size,1,none⟩=some (.slice x.num.A x.num.n x.num.c)∧W.cell? ⟨w1.heap.size,2,none⟩=some (.bool x.den.b)∧W.cell? ⟨w1.heap.size,3,none⟩=some (.slice x.den.A x.den.n x.den.c)) [] [5] (by kernel_rfl) ?_ (fun hHeld=>?_)
 focus ((try dsimp only);exact(HFb5.out.go blq).all 0 12)
 refine OrdL.tk 0 (some 21) ?_
 refine nw ?_
 refine OrdL.tk 1 (some 22) ?_
 refine nw ?_
 refine OrdL.tk 3 (some 24) ?_
 refine nw ?_
 refine OrdL.st 2 fun Kc hKc=>?_
 refine nv ?_
 go_simp
 refine(c_FSub (P:=fun _=>True) (K:=35) ((HX.out.wide (by omega)).below blq) (HLW.out.below blq) (by omega) (fun _ _=>trivial)).mono ?_
 rintro e w6 ⟨d,rfl,hd,hb6⟩
 have HD:=Lib.hid hd;clear hd
 have HF6:=fgo w6 HFb5
 have hz6:=HF6.out.1
 have hx6_0:w1.heap.size<w6.heap.size:=(by omega)
 have hx6_1:w4.heap.size<w6.heap.size:=(by omega)
 have hx6_2:w5.heap.size<w6.heap.size:=(by omega)
 obtain⟨_,_,_,_,_,_,_,_,_,_,_,_,-⟩:=HF6.out.alls 0 12
 go_wp2_with fail
 refine hKc.out _ _ ?_ (fun hHeld=>?_)
 focus ((try dsimp only);exact(HF6.out.go blq).all 0 12)
 clear hKc Kc
 refine nw ?_
 refine OrdL.st 4 fun Kc hKc=>?_
 refine nv ?_
 go_simp
 refine(c_FCmp' (P:=fun _=>True) (K:=72) (HD.out.below blq) ((HHF.out.wide (by omega)).below blq) (by omega) (fun _ _=>trivial) HS.out).mono ?_
 rintro e w7 ⟨rfl,hb7⟩
 have HF7:=fgo w7 HF6
 have hz7:=HF7.out.1
 have hx7_0:w1.heap.size<w7.heap.size:=(by omega)
 have hx7_1:w4.heap.size<w7.heap.size:=(by omega)
 have hx7_2:w5.heap.size<w7.heap.size:=(by omega)
 obtain⟨_,_,_,_,_,_,_,_,_,_,_,_,-⟩:=HF7.out.alls 0 12
 go_wp2_with fail
 refine hKc.out _ _ ?_ (fun hHeld=>?_)
 focus ((try dsimp only);exact(HF7.out.go blq).all 0 12)
 clear hKc Kc
 refine nw ?_
 refine OrdL.last (i:=5) rfl (by decide) (by decide) (by kernel_rfl) (fun Kc hKc=>?_)
 refine nv ?_
 go_simp
 refine hKc.out _ _ ?_
 clear hKc Kc
 refine nw ?_
 refine OrdL.done (by kernel_rfl) ?_ _
 go_wp2_with fail
 refine(c_FMul (P:=fun _=>True) (K:=35) (HLW.out.below blq) ((HHF.out.wide (by omega)).below blq) (by omega) (fun _ _=>trivial)).mono ?_
 rintro e w8 ⟨m,rfl,hm,hb8⟩
 have HM:=Lib.hid hm;clear hm
 have HF8:=fgo w8 HF7
 have hz8:=HF8.out.1
 have hx8_0:w1.heap.size<w8.heap.size:=(by omega)
 have hx8_1:w4.heap.size<w8.heap.size:=(by omega)
 have hx8_2:w5.heap.size<w8.heap.size:=(by omega)
 obtain⟨_,_,_,_,_,_,_,_,_,_,_,_,-⟩:=HF8.out.alls 0 12
 go_wp2_with fail
 refine(c_FInteger' (HM.out.below blq) HI.out).mono ?_
 rintro e w9 ⟨rfl,hb9⟩
 have HF9:=fgo w9 HF8
 have hz9:=HF9.out.1
 have hx9_0:w1.heap.size<w9.heap.size:=(by omega)
 have hx9_1:w4.heap.size<w9.heap.size:=(by omega)
 have hx9_2:w5.heap.size<w9.heap.size:=(by omega)
 obtain⟨_,_,_,_,_,_,_,_,_,_,_,_,-⟩:=HF9.out.alls 0 12
 go_wp2_with fail
 refine(c_told (HLW.out.below blq) (by omega)).mono ?_
 rintro e w10 ⟨rfl,hb10⟩
 have HF10:=fgo w10 HF9
 have hz10:=HF10.out.1
 have hx10_0:w1.heap.size<w10.heap.size:=(by omega)
 have hx10_1:w4.heap.size<w10.heap.size:=(by omega)
 have hx10_2:w5.heap.size<w10.heap.size:=(by omega)
 obtain⟨_,_,_,_,_,_,_,_,_,_,_,_,-⟩:=HF10.out.alls 0 12
 go_wp2_with fail
 go_ret2
 exact⟨by rw [HE.out];rfl,blq⟩
theorem c_rRound_o(a:ByteArray)(ha:a.size≤140737488351232){q:Rat}(hq:numB a=some q)(hs:(q-(q.floor:Rat)-1/2).num.sign=0)(hi:¬((q.floor:Rat)*(1/2)).den=1) :
 Calls Tryz.prog 39 #[.string a] w fun e w'=>e=.returned (.tuple #[.string (rRound a).1,.int .i64 (rRound a).2])∧Below w.heap.size w w':=by
 have HA:=Lib.hid ha
 clear ha
 have HQ:=Lib.hid hq
 have HS:=Lib.hid hs
 have HI:=Lib.hid (show decide (((q.floor:Rat)*(1/2)).den=1)=false from decide_eq_false hi)
 have HE:=Lib.hid (show rRound a=tellB (((q.floor:Int):Rat)+1) by rw [rRound,rUn,hq];simp only [roundQ,hs,hi];rfl)
 clear hq hs hi
 have HF0:=Lib.hid (show Fr [] (w.heap.size) w from(Fr.nil (by simp)))
 go_enter Tryz.func39,Tryz.ntmps39
 go_wp2_with fail
 refine(c_FP (P:=fun _=>True) a HA.out (fun _ _=>trivial)).mono ?_
 rintro e w1 ⟨x,rfl,hx,hb1⟩
 have HF1:=fgo w1 HF0
 have hz1:=HF1.out.1
 rw [HQ.out]
 simp only [Option.isSome_some]
 have HX:=Lib.hid (hx q HQ.out)
 clear hx
 have HFb1:=Lib.hid (HF1.out.new4 (.bool x.num.b) (.slice x.num.A x.num.n x.num.c) (.bool x.den.b) (.slice x.den.A x.den.n x.den.c) 52)
 go_wp2_with fail
 refine(c_FOf (P:=fun _=>True) 1 (by omega) (by omega) (fun _ _=>trivial)).mono ?_
 rintro e w2 ⟨u1,rfl,hu1,hb2⟩
 have HU1:=Lib.hid hu1;clear hu1
 have HF2:=fgo w2 HFb1
 have hz2:=HF2.out.1
 have hx2_0:w1.heap.size<w2.heap.size:=(by omega)
 obtain⟨_,_,_,_,-⟩:=HF2.out.alls 0 4
 go_wp2_with fail
 refine(c_FOf (P:=fun _=>True) 2 (by omega) (by omega) (fun _ _=>trivial)).mono ?_
 rintro e w3 ⟨u2,rfl,hu2,hb3⟩
 have HU2:=Lib.hid hu2;clear hu2
 have HF3:=fgo w3 HF2
 have hz3:=HF3.out.1
 have hx3_0:w1.heap.size<w3.heap.size:=(by omega)
 obtain⟨_,_,_,_,-⟩:=HF3.out.alls 0 4
 go_wp2_with fail
 refine(c_FDiv (P:=fun _=>True) (HU1.out.below blq) (HU2.out.below blq) (by decide) (by omega) (fun _ _=>trivial)).mono ?_
 rintro e w4 ⟨h,rfl,hh,hb4⟩
 have HH:=Lib.hid hh;clear hh
 have HF4:=fgo w4 HF3
 have hz4:=HF4.out.1
 have hx4_0:w1.heap.size<w4.heap.size:=(by omega)
 obtain⟨_,_,_,_,-⟩:=HF4.out.alls 0 4
 have HFb4:=Lib.hid (HF4.out.new4 (.bool h.num.b) (.slice h.num.A h.num.n h.num.c) (.bool h.den.b) (.slice h.den.A h.den.n h.den.c) 52)
 go_wp2_with fail
 refine(c_FFloor (P:=fun _=>True) (HX.out.below blq) (by omega) (fun _ _=>trivial)).mono ?_
 rintro e w5 ⟨l,rfl,hl,hb5⟩
 have HF5:=fgo w5 HFb4
 have hz5:=HF5.out.1
 have hx5_0:w1.heap.size<w5.heap.size:=(by omega)
 have hx5_1:w4.heap.size<w5.heap.size:=(by omega)
 obtain⟨_,_,_,_,_,_,_,_,-⟩:=HF5.out.alls 0 8
 have HLW:=Lib.hid (show IsF (fun _=>True) 35 _ l ((q.floor:Int):Rat)from (by rw [floor_q];exact hl.wide (by omega)))
 clear hl
 have HFb5:=Lib.hid (HF5.out.new4 (.bool l.num.b) (.slice l.num.A l.num.n l.num.c) (.bool l.den.b) (.slice l.den.A l.den.n l.den.c) 52)
 have HHF:=Lib.hid (show IsF (fun _=>True) (3+3+1) _ h (1/2)from HH.out)
 go_wp2_with fail
 refine OrdL.begin_ (S:=fun W=>W.cell? ⟨w5.heap.size,0,none⟩=some (.bool l.num.b)∧W.cell? ⟨w5.heap.size,1,none⟩=some (.slice l.num.A l.num.n l.num.c)∧W.cell? ⟨w5.heap.size,2,none⟩=some (.bool l.den.b)∧W.cell? ⟨w5.heap.size,3,none⟩=some (.slice l.den.A l.den.n l.den.c)∧W.cell? ⟨w4.heap.size,0,none⟩=some (.bool h.num.b)∧W.cell? ⟨w4.heap.size,1,none⟩=some (.slice h.num.A h.num.n h.num.c)∧W.cell? ⟨w4.heap.size,2,none⟩=some (.bool h.den.b)∧W.cell? ⟨w4.heap.size,3,none⟩=some (.slice h.den.A h.den.n h.den.c)∧W.cell? ⟨w1.heap.size,0,none⟩=some (.bool x.num.b)∧W.cell? ⟨w1.heap.size,1,none⟩=some (.slice x.num.A x.num.n x.num.c)∧W.cell? ⟨w1.heap.size,2,none⟩=some (.bool x.den.b)∧W.cell? ⟨w1.heap.size,3,none⟩=some (.slice x.den.A x.den.n x.den.c)) [] [5] (by kernel_rfl) ?_ (fun hHeld=>?_)
 focus ((try dsimp only);exact(HFb5.out.go blq).all 0 12)
 refine OrdL.tk 0 (some 21) ?_
 refine nw ?_
 refine OrdL.tk 1 (some 22) ?_
 refine nw ?_
 refine OrdL.tk 3 (some 24) ?_
 refine nw ?_
 refine OrdL.st 2 fun Kc hKc=>?_
 refine nv ?_
 go_simp
 refine(c_FSub (P:=fun _=>True) (K:=35) ((HX.out.wide (by omega)).below blq) (HLW.out.below blq) (by omega) (fun _ _=>trivial)).mono ?_
 rintro e w6 ⟨d,rfl,hd,hb6⟩
 have HD:=Lib.hid hd;clear hd
 have HF6:=fgo w6 HFb5
 have hz6:=HF6.out.1
 have hx6_0:w1.heap.size<w6.heap.size:=(by omega)
 have hx6_1:w4.heap.size<w6.heap.size:=(by omega)
 have hx6_2:w5.heap.size<w6.heap.size:=(by omega)
 obtain⟨_,_,_,_,_,_,_,_,_,_,_,_,-⟩:=HF6.out.alls 0 12
 go_wp2_with fail
 refine hKc.out _ _ ?_ (fun hHeld=>?_)
 focus ((try dsimp only);exact(HF6.out.go blq).all 0 12)
 clear hKc Kc
 refine nw ?_
 refine OrdL.st 4 fun Kc hKc=>?_
 refine nv ?_
 go_simp
 refine(c_FCmp' (P:=fun _=>True) (K:=72) (HD.out.below blq) ((HHF.out.wide (by omega)).below blq) (by omega) (fun _ _=>trivial) HS.out).mono ?_
 rintro e w7 ⟨rfl,hb7⟩
 have HF7:=fgo w7 HF6
 have hz7:=HF7.out.1
 have hx7_0:w1.heap.size<w7.heap.size:=(by omega)
 have hx7_1:w4.heap.size<w7.heap.size:=(by omega)
 have hx7_2:w5.heap.size<w7.heap.size:=(by omega)
 obtain⟨_,_,_,_,_,_,_,_,_,_,_,_,-⟩:=HF7.out.alls 0 12
 go_wp2_with fail
 refine hKc.out _ _ ?_ (fun hHeld=>?_)
 focus ((try dsimp only);exact(HF7.out.go blq).all 0 12)
 clear hKc Kc
 refine nw ?_
 refine OrdL.last (i:=5) rfl (by decide) (by decide) (by kernel_rfl) (fun Kc hKc=>?_)
 refine nv ?_
 go_simp
 refine hKc.out _ _ ?_
 clear hKc Kc
 refine nw ?_
 refine OrdL.done (by kernel_rfl) ?_ _
 go_wp2_with fail
 refine(c_FMul (P:=fun _=>True) (K:=35) (HLW.out.below blq) ((HHF.out.wide (by omega)).below blq) (by omega) (fun _ _=>trivial)).mono ?_
 rintro e w8 ⟨m,rfl,hm,hb8⟩
 have HM:=Lib.hid hm;clear hm
 have HF8:=fgo w8 HF7
 have hz8:=HF8.out.1
 have hx8_0:w1.heap.size<w8.heap.size:=(by omega)
 have hx8_1:w4.heap.size<w8.heap.size:=(by omega)
 have hx8_2:w5.heap.size<w8.heap.size:=(by omega)
 obtain⟨_,_,_,_,_,_,_,_,_,_,_,_,-⟩:=HF8.out.alls 0 12
 go_wp2_with fail
 refine(c_FInteger' (HM.out.below blq) HI.out).mono ?_
 rintro e w9 ⟨rfl,hb9⟩
 have HF9:=fgo w9 HF8
 have hz9:=HF9.out.1
 have hx9_0:w1.heap.size<w9.heap.size:=(by omega)
 have hx9_1:w4.heap.size<w9.heap.size:=(by omega)
 have hx9_2:w5.heap.size<w9.heap.size:=(by omega)
 obtain⟨_,_,_,_,_,_,_,_,_,_,_,_,-⟩:=HF9.out.alls 0 12
 go_wp2_with fail
 refine OrdL.begin_ (S:=fun W=>W.cell? ⟨w5.heap.size,0,none⟩=some (.bool l.num.b)∧W.cell? ⟨w5.heap.size,1,none⟩=some (.slice l.num.A l.num.n l.num.c)∧W.cell? ⟨w5.heap.size,2,none⟩=some (.bool l.den.b)∧W.cell? ⟨w5.heap.size,3,none⟩=some (.slice l.den.A l.den.n l.den.c)∧W.cell? ⟨w4.heap.size,0,none⟩=some (.bool h.num.b)∧W.cell? ⟨w4.heap.size,1,none⟩=some (.slice h.num.A h.num.n h.num.c)∧W.cell? ⟨w4.heap.size,2,none⟩=some (.bool h.den.b)∧W.cell? ⟨w4.heap.size,3,none⟩=some (.slice h.den.A h.den.n h.den.c)∧W.cell? ⟨w1.heap.size,0,none⟩=some (.bool x.num.b)∧W.cell? ⟨w1.heap.size,1,none⟩=some (.slice x.num.A x.num.n x.num.c)∧W.cell? ⟨w1.heap.size,2,none⟩=some (.bool x.den.b)∧W.cell? ⟨w1.heap.size,3,none⟩=some (.slice x.den.A x.den.n x.den.c)) [] [3] (by kernel_rfl) ?_ (fun hHeld=>?_)
 focus ((try dsimp only);exact(HF9.out.go blq).all 0 12)
 refine OrdL.tk 0 (some 38) ?_
 refine nw ?_
 refine OrdL.st 1 fun Kc hKc=>?_
 refine nv ?_
 go_simp
 refine(c_FOf (P:=Ex (fun _=>True) (w5.heap.size)) 1 (by omega) (by omega) (fun k hk=>⟨trivial,by have hb9:=hk;(try simp at hb9);omega⟩)).mono ?_
 rintro e w10 ⟨v1,rfl,hv1,hb10⟩
 have HV1:=Lib.hid hv1;clear hv1
 have HF10:=fgo w10 HF9
 have hz10:=HF10.out.1
 have hx10_0:w1.heap.size<w10.heap.size:=(by omega)
 have hx10_1:w4.heap.size<w10.heap.size:=(by omega)
 have hx10_2:w5.heap.size<w10.heap.size:=(by omega)
 obtain⟨_,_,_,_,_,_,_,_,_,_,_,_,-⟩:=HF10.out.alls 0 12
 go_wp2_with fail
 refine hKc.out _ _ ?_ (fun hHeld=>?_)
 focus ((try dsimp only);exact(HF10.out.go blq).all 0 12)
 clear hKc Kc
 refine nw ?_
 refine OrdL.st 2 fun Kc hKc=>?_
 refine nv ?_
 go_simp
 refine(c_FAdd (P:=Ex (fun _=>True) (w5.heap.size)) (K:=35) ((HLW.out.ex (Nat.le_refl _)).below blq) ((HV1.out.wide (by omega)).below blq) (by omega) (fun k hk=>⟨trivial,by have hb9:=hk;(try simp at hb9);omega⟩)).mono ?_
 rintro e w11 ⟨r,rfl,hr,hb11⟩
 have HR:=Lib.hid hr;clear hr
 have HF11:=fgo w11 HF10
 have hz11:=HF11.out.1
 have hx11_0:w1.heap.size<w11.heap.size:=(by omega)
 have hx11_1:w4.heap.size<w11.heap.size:=(by omega)
 have hx11_2:w5.heap.size<w11.heap.size:=(by omega)
 obtain⟨_,_,_,_,_,_,_,_,_,_,_,_,-⟩:=HF11.out.alls 0 12
 obtain⟨_,_,_,_,-⟩:=HF11.out.falls 0 4
 go_wp2_with fail
 refine hKc.out _ _ ?_ (fun hHeld=>?_)
 focus ((try dsimp only);exact(HF11.out.go blq).all 0 12)
 clear hKc Kc
 refine nw ?_
 refine OrdL.last (i:=3) rfl (by decide) (by decide) (by kernel_rfl) (fun Kc hKc=>?_)
 refine nv ?_
 go_simp
 refine hKc.out _ _ ?_
 clear hKc Kc
 refine nw ?_
 refine OrdL.done (by kernel_rfl) ?_ _
 go_wp2_with fail
 refine(c_told (P:=fun _=>True) (K:=35+35+2) (x:=r) (q:=(q.floor:Rat)+1) ?hr (by omega)).mono ?_
 case hr=>exact IsF.mono ((((HR.out.setx _ _).setx _ _).setx _ _).setx _ _) (fun _ hk=>hk.1)
 rintro e wz ⟨rfl,hbz⟩
 go_wp2_with fail
 go_ret2
 exact⟨by rw [HE.out];rfl,blq⟩
theorem c_rRound(a:ByteArray)(ha:a.size≤140737488351232) :
 Calls Tryz.prog 39 #[.string a] w fun e w'=>e=.returned (.tuple #[.string (rRound a).1,.int .i64 (rRound a).2])∧Below w.heap.size w w':=by
 cases hq:numB a with
 | none=>exact c_rRound_n a ha hq
 | some q =>
  rcases Int.lt_trichotomy (q-(q.floor:Rat)-1/2).num 0 with h|h|h
  · exact c_rRound_l a ha hq (Int.sign_eq_neg_one_of_neg h)
  · by_cases hi:((q.floor:Rat)*(1/2)).den=1
    · exact c_rRound_e a ha hq (by rw [h];rfl) hi
    · exact c_rRound_o a ha hq (by rw [h];rfl) hi
  · exact c_rRound_g a ha hq (Int.sign_eq_one_of_pos h)
theorem c_rMultiple_n(a b:ByteArray)(ha:a.size≤140737488351232)(hb:b.size≤140737488351232)(hq:numB a=none∨numB b=none) :
 Calls Tryz.prog 11 #[.string a,.string b] w fun e w'=>e=.returned (.tuple #[.bool (rMultiple a b).1,.int .i64 (rMultiple a b).2])∧Below w.heap.size w w':=by
 have HA:=Lib.hid ha
 have HB:=Lib.hid hb
 clear ha hb
 have HQ:=Lib.hid hq
 have HE:=Lib.hid (show rMultiple a b=(false,1)from by exact hq.elim (fun h=>by rw [rMultiple,h]) (fun h=>by rw [rMultiple,h];cases numB a <;> rfl))
 clear hq
 have HF0:=Lib.hid (show Fr [] (w.heap.size) w from(Fr.nil (by simp)))
 go_enter Tryz.func11,Tryz.ntmps11
 go_wp2_with fail
 refine(c_parsed_no a b HA.out HB.out HQ.out).mono ?_
 rintro e w1 ⟨rfl,hb1⟩
 have HF1:=fgo w1 HF0
 have hz1:=HF1.out.1
 go_wp2_with fail
 go_ret2
 exact⟨by rw [HE.out];rfl,blq⟩
theorem c_rMultiple_a(a b:ByteArray)(ha:a.size≤140737488351232)(hb:b.size≤140737488351232){q p:Rat}(hq:numB a=some q)(hp:numB b=some p)(h0:p.num.sign≤0) :
 Calls Tryz.prog 11 #[.string a,.string b] w fun e w'=>e=.returned (.tuple #[.bool (rMultiple a b).1,.int .i64 (rMultiple a b).2])∧Below w.heap.size w w':=by
 have HA:=Lib.hid ha
 have HB:=Lib.hid hb
 clear ha hb
 have HQ:=Lib.hid hq
 have HP:=Lib.hid hp
 have HE:=Lib.hid (show rMultiple a b=(false,3)from by rw [rMultiple,hq,hp];exact if_pos h0)
 clear hq hp
 obtain⟨s,hs⟩:∃s,s=p.num.sign:=⟨_,rfl⟩
 have HS:=Lib.hid hs.symm
 have hs0:s≤0:=by omega
 clear hs h0
 have HF0:=Lib.hid (show Fr [] (w.heap.size) w from(Fr.nil (by simp)))
 go_enter Tryz.func11,Tryz.ntmps11
 go_wp2_with fail
 refine(c_parsed_yes a b HA.out HB.out HQ.out HP.out).mono ?_
 rintro e w1 ⟨x,y,g,c,rfl,hfr,hx,hy,hb1⟩
 have HFR:=Lib.hid hfr;clear hfr
 have HX:=Lib.hid hx;clear hx
 have HY:=Lib.hid hy;clear hy
 have HF1:=fgo w1 HF0
 have hz1:=HF1.out.1
 have HFb1:=Lib.hid (show Fr [(g,0,(.bool x.num.b)),(g,1,(.slice x.num.A x.num.n x.num.c)),(g,2,(.bool x.den.b)),(g,3,(.slice x.den.A x.den.n x.den.c)),(g,4,(.bool y.num.b)),(g,5,(.slice y.num.A y.num.n y.num.c)),(g,6,(.bool y.den.b)),(g,7,(.slice y.den.A y.den.n y.den.c))] (g+1) w1 from HFR.out)
 have hg1:g<w1.heap.size:=HFb1.out.1
 obtain⟨_,_,_,_,_,_,_,_,-⟩:=HFb1.out.alls 0 8
 go_wp2_with fail
 refine(c_FSign' (HY.out.below blq) HS.out).mono ?_
 rintro e w2 ⟨rfl,hb2⟩
 have HF2:=fgo w2 HFb1
 have hz2:=HF2.out.1
 have hx2_0:g<w2.heap.size:=(by omega)
 obtain⟨_,_,_,_,_,_,_,_,-⟩:=HF2.out.alls 0 8
 go_wp2_with fail
 go_ret2
 exact⟨by rw [HE.out];rfl,blq⟩
theorem c_rMultiple_y(a b:ByteArray)(ha:a.size≤140737488351232)(hb:b.size≤140737488351232){q p:Rat}(hq:numB a=some q)(hp:numB b=some p)(h0:¬p.num.sign≤0) :
 Calls Tryz.prog 11 #[.string a,.string b] w fun e w'=>e=.returned (.tuple #[.bool (rMultiple a b).1,.int .i64 (rMultiple a b).2])∧Below w.heap.size w w':=by
 have HA:=Lib.hid ha
 have HB:=Lib.hid hb
 clear ha hb
 have HQ:=Lib.hid hq
 have HP:=Lib.hid hp
 obtain⟨bb,hbb⟩:∃bb:Bool,decide (0≤q.num∧(q/p).den=1)=bb:=⟨_,rfl⟩
 have HBB:=Lib.hid hbb
 have HE:=Lib.hid (show rMultiple a b=(bb,0)from by rw [rMultiple,hq,hp];exact(if_neg h0).trans (by rw [←hbb];simp only [Int.sign_nonneg_iff]))
 clear hq hp hbb
 obtain⟨s,hs⟩:∃s,s=p.num.sign:=⟨_,rfl⟩
 have HS:=Lib.hid hs.symm
 have hs0:¬s≤0:=by omega
 have HN:=Lib.hid (show p≠0 from fun h=>h0 (by rw [h];decide))
 clear hs h0
 have HF0:=Lib.hid (show Fr [] (w.heap.size) w from(Fr.nil (by simp)))
 go_enter Tryz.func11,Tryz.ntmps11
 go_wp2_with fail
 refine(c_parsed_yes a b HA.out HB.out HQ.out HP.out).mono ?_
 rintro e w1 ⟨x,y,g,c,rfl,hfr,hx,hy,hb1⟩
 have HFR:=Lib.hid hfr;clear hfr
 have HX:=Lib.hid hx;clear hx
 have HY:=Lib.hid hy;clear hy
 have HF1:=fgo w1 HF0
 have hz1:=HF1.out.1
 have HFb1:=Lib.hid (show Fr [(g,0,(.bool x.num.b)),(g,1,(.slice x.num.A x.num.n x.num.c)),(g,2,(.bool x.den.b)),(g,3,(.slice x.den.A x.den.n x.den.c)),(g,4,(.bool y.num.b)),(g,5,(.slice y.num.A y.num.n y.num.c)),(g,6,(.bool y.den.b)),(g,7,(.slice y.den.A y.den.n y.den.c))] (g+1) w1 from HFR.out)
 have hg1:g<w1.heap.size:=HFb1.out.1
 obtain⟨_,_,_,_,_,_,_,_,-⟩:=HFb1.out.alls 0 8
 go_wp2_with fail
 refine(c_FSign' (HY.out.below blq) HS.out).mono ?_
 rintro e w2 ⟨rfl,hb2⟩
 have HF2:=fgo w2 HFb1
 have hz2:=HF2.out.1
 have hx2_0:g<w2.heap.size:=(by omega)
 obtain⟨_,_,_,_,_,_,_,_,-⟩:=HF2.out.alls 0 8
 go_wp2_with fail
 refine OrdL.begin_ (S:=fun W=>W.cell? ⟨g,0,none⟩=some (.bool x.num.b)∧W.cell? ⟨g,1,none⟩=some (.slice x.num.A x.num.n x.num.c)∧W.cell? ⟨g,2,none⟩=some (.bool x.den.b)∧W.cell? ⟨g,3,none⟩=some (.slice x.den.A x.den.n x.den.c)∧W.cell? ⟨g,4,none⟩=some (.bool y.num.b)∧W.cell? ⟨g,5,none⟩=some (.slice y.num.A y.num.n y.num.c)∧W.cell? ⟨g,6,none⟩=some (.bool y.den.b)∧W.cell? ⟨g,7,none⟩=some (.slice y.den.A y.den.n y.den.c)) [] [7,8] (by kernel_rfl) ?_ (fun hHeld=>?_)
 focus ((try dsimp only);exact(HF2.out.go blq).all 0 8)
 refine OrdL.tk 0 (some 24) ?_
 refine nw ?_
 refine OrdL.tk 1 (some 25) ?_
 refine nw ?_
 refine OrdL.tk 2 (some 26) ?_
 refine nw ?_
 refine OrdL.tk 3 (some 27) ?_
 refine nw ?_
 refine OrdL.tk 4 (some 28) ?_
 refine nw ?_
 refine OrdL.tk 5 (some 29) ?_
 refine nw ?_
 refine OrdL.st 6 fun Kc hKc=>?_
 refine nv ?_
 go_simp
 refine(c_FMultiple' (P:=fun _=>True) (K:=34) (HX.out.below blq) (HY.out.below blq) HN.out (by omega) (fun _ _=>trivial) HBB.out).mono ?_
 rintro e w3 ⟨rfl,hb3⟩
 have HF3:=fgo w3 HF2
 have hz3:=HF3.out.1
 have hx3_0:g<w3.heap.size:=(by omega)
 obtain⟨_,_,_,_,_,_,_,_,-⟩:=HF3.out.alls 0 8
 go_wp2_with fail
 refine hKc.out _ _ ?_ (fun hHeld=>?_)
 focus ((try dsimp only);exact(HF3.out.go blq).all 0 8)
 clear hKc Kc
 refine nw ?_
 refine OrdL.last (i:=7) rfl (by decide) (by decide) (by kernel_rfl) (fun Kc hKc=>?_)
 refine nv ?_
 go_simp
 refine hKc.out _ _ ?_
 clear hKc Kc
 refine nw ?_
 refine OrdL.last (i:=8) rfl (by decide) (by decide) (by kernel_rfl) (fun Kc hKc=>?_)
 refine nv ?_
 go_simp
 refine hKc.out _ _ ?_
 clear hKc Kc
 refine nw ?_
 refine OrdL.done (by kernel_rfl) ?_ _
 go_wp2_with fail
 go_ret2
 exact⟨by rw [HE.out];rfl,blq⟩
theorem c_rMultiple(a b:ByteArray)(ha:a.size≤140737488351232)(hb:b.size≤140737488351232) :
 Calls Tryz.prog 11 #[.string a,.string b] w fun e w'=>e=.returned (.tuple #[.bool (rMultiple a b).1,.int .i64 (rMultiple a b).2])∧Below w.heap.size w w':=by
 cases hq:numB a with
 | none=>exact c_rMultiple_n a b ha hb (.inl hq)
 | some q =>
  cases hp:numB b with
  | none=>exact c_rMultiple_n a b ha hb (.inr hp)
  | some p =>
   by_cases h0:p.num.sign≤0
   · exact c_rMultiple_a a b ha hb hq hp h0
   · exact c_rMultiple_y a b ha hb hq hp h0
end
end Go.Proofs.YtpdghgfbfmaplaaGreatDoor.Wh
end
