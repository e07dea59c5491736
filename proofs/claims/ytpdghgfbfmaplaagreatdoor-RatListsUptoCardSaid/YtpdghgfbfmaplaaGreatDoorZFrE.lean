/- Lemmas for RatLists. -/
import Derived.Test.YtpdghgfbfmaplaaGreatDoorZFrD
import Derived.Laws.Concat
set_option maxRecDepth 100000
set_option maxHeartbeats 8000000
section
set_option linter.unusedVariables false
set_option linter.unusedSimpArgs false
namespace Go.Proofs.YtpdghgfbfmaplaaGreatDoor.Wh
open Go.RowKit Go.Proofs.YtpdghgfbfmaplaaGreatDoorW.PrintWords Go.Proofs.YtpdghgfbfmaplaaGreatDoor.Num Go.Proofs.YtpdghgfbfmaplaaGreatDoor.Dec
section
variable {P:Nat→Prop} {K K':Nat} {w:World}
theorem c_FSign'{x:FV}{q:Rat}{b:Int}(hx:IsF P K w x q)(hb:q.num.sign=b):Calls Tryz.prog 47 #[.agg #[.bool x.num.b,.slice x.num.A x.num.n x.num.c,.bool x.den.b,.slice x.den.A x.den.n x.den.c]] w fun e w'=>e=.returned (.int .i64 b)∧Below w.heap.size w w':=hb▸c_FSign hx
theorem c_FInteger'{x:FV}{q:Rat}{b:Bool}(hx:IsF P K w x q)(hb:decide (q.den=1)=b):Calls Tryz.prog 87 #[.agg #[.bool x.num.b,.slice x.num.A x.num.n x.num.c,.bool x.den.b,.slice x.den.A x.den.n x.den.c]] w fun e w'=>e=.returned (.bool b)∧Below w.heap.size w w':=hb▸c_FInteger hx
theorem strW_nat(n:Nat):strW (n:Int)=dec n:=by unfold strW;rw [if_neg (by omega),Int.natAbs_natCast]
theorem strW_len{n K:Nat}{z:Int}(h:z.natAbs<1000000000^K):(strW z).length≤9*K+2:=by
 have:=dec_len h
 unfold strW
 split
 · rw [List.length_cons];omega
 · omega
theorem c_String'{x:WV}{z:Int}(hx:IsW P K w x z)(hK:K≤15637498706000) :
 Calls Tryz.prog 64 #[.agg #[.bool x.b,.slice x.A x.n x.c]] w fun e w'=>∃s:ByteArray,e=.returned (.string s)∧s.data.toList=strW z∧s.size≤200000000000000∧Below w.heap.size w w':=by
 refine(c_String hx (Nat.le_trans hx.len hK)).mono ?_
 rintro e w' ⟨rfl,hb⟩
 have:=strW_len (n:=0) hx.bd
 exact⟨⟨(strW z).toArray⟩,rfl,by simp,by simp [ByteArray.size];omega,hb⟩
theorem cat3(a b:ByteArray):(a++⟨#[47]⟩++b).data.toList=a.data.toList++47 :: b.data.toList:=by simp [ByteArray.data_append]
instance (q:Rat):Decidable (Short q):=inferInstanceAs (Decidable (_∧_))
theorem c_FFloor{x:FV}{q:Rat}(hx:IsF P K w x q)(hK:K≤100000000)(hP:∀k,w.heap.size≤k→P k) :
 Calls Tryz.prog 85 #[.agg #[.bool x.num.b,.slice x.num.A x.num.n x.num.c,.bool x.den.b,.slice x.den.A x.den.n x.den.c]] w fun e w'=>∃r:FV,e=.returned (.agg #[.bool r.num.b,.slice r.num.A r.num.n r.num.c,.bool r.den.b,.slice r.den.A r.den.n r.den.c])∧IsF P (max (K+1) 3) w' r (((q.num/(q.den:Int):Int)):Rat)∧Below w.heap.size w w':=by
 have HX:=Lib.hid (hx.gap 2)
 have HK:=Lib.hid hK
 clear hx hK
 have HP:=Lib.hid hP
 clear hP
 have HF0:=Lib.hid (show Fr [(w.heap.size,0,(.bool x.num.b)),(w.heap.size,1,(.slice x.num.A x.num.n x.num.c)),(w.heap.size,2,(.bool x.den.b)),(w.heap.size,3,(.slice x.den.A x.den.n x.den.c)),(w.heap.size+1,0,(.bool false)),(w.heap.size+1,1,(.slice none 0 0)),(w.heap.size+1,2,(.bool false)),(w.heap.size+1,3,(.slice none 0 0))] (w.heap.size+1+1) ((w.alloc (.cells #[.bool x.num.b,.slice x.num.A x.num.n x.num.c,.bool x.den.b,.slice x.den.A x.den.n x.den.c] 52)).alloc (.cells #[.bool false,.slice none 0 0,.bool false,.slice none 0 0] 52))from frq)
 go_enter Tryz.func85,Tryz.ntmps85
 go_wp2_with fail
 refine(c_Div (P:=Gp P w.heap.size 2) (HX.out.hn.below blq) (HX.out.hd.below blq) (by have:=HK.out;omega) (gap_fresh HP.out blq arq) (by have:=den_pos q;omega)).mono ?_
 rintro e w1 ⟨x1,x2,rfl,hx1,hx2,hb1⟩
 have HX1:=Lib.hid hx1;clear hx1
 have HX2:=Lib.hid hx2;clear hx2
 have HF1:=fgo w1 HF0
 have hz1:=HF1.out.1
 obtain⟨hl1_0,hl1_1⟩:=lt2 hz1
 obtain⟨_,_,_,_,_,_,_,_,-⟩:=HF1.out.alls 0 8
 obtain⟨_,_,_,_,-⟩:=HF1.out.falls 4 4
 go_wp2_with fail
 go_region_with (first
  | (go_at_call 59;refine(c_Of (P:=Gp P w.heap.size 2) 1 (by omega) (by omega) (gap_fresh HP.out blq arq)).mono ?_;rintro e w2 ⟨x3,rfl,hx3,hb2⟩;have HX3:=Lib.hid hx3;clear hx3;have HF2:=fgo w2 HF1;have hz2:=HF2.out.1;obtain⟨hl2_0,hl2_1⟩:=lt2 hz2;obtain⟨_,_,_,_,q2_4,q2_5,q2_6,q2_7,-⟩:=HF2.out.alls 0 8;obtain⟨_,_,_,_,-⟩:=HF2.out.falls 4 4;have HD2:=Lib.hid (show Fr [(w1.heap.size,0,.bool x1.b),(w1.heap.size,1,.slice x1.A x1.n x1.c)] (w1.heap.size+1) w2 from(Fr.lit2 (W:=w1) rfl).go blq);have d0:=HD2.out.get 0 rfl;have d1:=HD2.out.get 1 rfl;have hd2:w1.heap.size<w2.heap.size:=HD2.out.1))
 all_goals (go_wp2_with fail)
 all_goals (refine bodyPost_ret (v:=.agg #[.bool (FV.mk x1 x3).num.b,.slice (FV.mk x1 x3).num.A (FV.mk x1 x3).num.n (FV.mk x1 x3).num.c,.bool (FV.mk x1 x3).den.b,.slice (FV.mk x1 x3).den.A (FV.mk x1 x3).den.n (FV.mk x1 x3).den.c]) (by simp [results,Tryz.results85,go_sem,q2_4,q2_5,q2_6,q2_7]) rfl ⟨⟨x1,x3⟩,rfl,IsF.ungap (s:=w.heap.size) (n:=2) ⟨?_,?_⟩,blq⟩)
 all_goals first
  | exact(((((HX1.out.wide (Nat.le_max_left (K+1) 3)).below blq).put _ arq arq).put _ arq arq).put _ arq arq).put _ arq arq
  | exact((((HX3.out.wide (Nat.le_max_right (K+1) 3)).put _ arq arq).put _ arq arq).put _ arq arq).put _ arq arq
  | fail
theorem c_FMultiple_n{x y:FV}{q p:Rat}(hx:IsF P K w x q)(hy:IsF P K w y p)(hp:p≠0)(hK:K≤100000000)(hP:∀k,w.heap.size≤k→P k)(hs:q.num<0) :
 Calls Tryz.prog 55 #[.agg #[.bool x.num.b,.slice x.num.A x.num.n x.num.c,.bool x.den.b,.slice x.den.A x.den.n x.den.c],.agg #[.bool y.num.b,.slice y.num.A y.num.n y.num.c,.bool y.den.b,.slice y.den.A y.den.n y.den.c]] w fun e w'=>e=.returned (.bool (decide (0≤q.num∧(q/p).den=1)))∧Below w.heap.size w w':=by
 have HX:=Lib.hid (hx.gap 2)
 have HK:=Lib.hid hK
 clear hx hK
 have HY:=Lib.hid (hy.gap 2)
 have HP:=Lib.hid hP
 have HN:=Lib.hid hp
 have HS:=Lib.hid (show q.num.sign= -1 from Int.sign_eq_neg_one_of_neg hs)
 have HE:=Lib.hid (show decide (0≤q.num∧(q/p).den=1)=false from decide_eq_false (by omega))
 clear hy hP hp hs
 have HF0:=Lib.hid (show Fr [(w.heap.size,0,(.bool x.num.b)),(w.heap.size,1,(.slice x.num.A x.num.n x.num.c)),(w.heap.size,2,(.bool x.den.b)),(w.heap.size,3,(.slice x.den.A x.den.n x.den.c)),(w.heap.size+1,0,(.bool y.num.b)),(w.heap.size+1,1,(.slice y.num.A y.num.n y.num.c)),(w.heap.size+1,2,(.bool y.den.b)),(w.heap.size+1,3,(.slice y.den.A y.den.n y.den.c))] (w.heap.size+1+1) ((w.alloc (.cells #[.bool x.num.b,.slice x.num.A x.num.n x.num.c,.bool x.den.b,.slice x.den.A x.den.n x.den.c] 52)).alloc (.cells #[.bool y.num.b,.slice y.num.A y.num.n y.num.c,.bool y.den.b,.slice y.den.A y.den.n y.den.c] 52))from frq)
 go_enter Tryz.func55,Tryz.ntmps55
 go_wp2_with fail
 refine(c_FSign' (HX.out.below blq) HS.out).mono ?_
 rintro e w1 ⟨rfl,hb1⟩
 have HF1:=fgo w1 HF0
 have hz1:=HF1.out.1
 obtain⟨hl1_0,hl1_1⟩:=lt2 hz1
 obtain⟨_,_,_,_,_,_,_,_,-⟩:=HF1.out.alls 0 8
 go_wp2_with fail
 go_ret
 exact⟨by rw [HE.out];rfl,blq⟩
theorem c_FMultiple_z{x y:FV}{q p:Rat}(hx:IsF P K w x q)(hy:IsF P K w y p)(hp:p≠0)(hK:K≤100000000)(hP:∀k,w.heap.size≤k→P k)(hs:q.num=0) :
 Calls Tryz.prog 55 #[.agg #[.bool x.num.b,.slice x.num.A x.num.n x.num.c,.bool x.den.b,.slice x.den.A x.den.n x.den.c],.agg #[.bool y.num.b,.slice y.num.A y.num.n y.num.c,.bool y.den.b,.slice y.den.A y.den.n y.den.c]] w fun e w'=>e=.returned (.bool (decide (0≤q.num∧(q/p).den=1)))∧Below w.heap.size w w':=by
 have HX:=Lib.hid (hx.gap 2)
 have HK:=Lib.hid hK
 clear hx hK
 have HY:=Lib.hid (hy.gap 2)
 have HP:=Lib.hid hP
 have HN:=Lib.hid hp
 have HS:=Lib.hid (show q.num.sign=0 from(by rw [hs];rfl))
 have HE:=Lib.hid (show decide (0≤q.num∧(q/p).den=1)=decide ((q/p).den=1)from (by rw [decide_eq_decide];omega))
 clear hy hP hp hs
 have HF0:=Lib.hid (show Fr [(w.heap.size,0,(.bool x.num.b)),(w.heap.size,1,(.slice x.num.A x.num.n x.num.c)),(w.heap.size,2,(.bool x.den.b)),(w.heap.size,3,(.slice x.den.A x.den.n x.den.c)),(w.heap.size+1,0,(.bool y.num.b)),(w.heap.size+1,1,(.slice y.num.A y.num.n y.num.c)),(w.heap.size+1,2,(.bool y.den.b)),(w.heap.size+1,3,(.slice y.den.A y.den.n y.den.c))] (w.heap.size+1+1) ((w.alloc (.cells #[.bool x.num.b,.slice x.num.A x.num.n x.num.c,.bool x.den.b,.slice x.den.A x.den.n x.den.c] 52)).alloc (.cells #[.bool y.num.b,.slice y.num.A y.num.n y.num.c,.bool y.den.b,.slice y.den.A y.den.n y.den.c] 52))from frq)
 go_enter Tryz.func55,Tryz.ntmps55
 go_wp2_with fail
 refine(c_FSign' (HX.out.below blq) HS.out).mono ?_
 rintro e w1 ⟨rfl,hb1⟩
 have HF1:=fgo w1 HF0
 have hz1:=HF1.out.1
 obtain⟨hl1_0,hl1_1⟩:=lt2 hz1
 obtain⟨_,_,_,_,_,_,_,_,-⟩:=HF1.out.alls 0 8
 go_wp2_with fail
 refine(c_FDiv (P:=Gp P w.heap.size 2) (HX.out.below blq) (HY.out.below blq) HN.out HK.out (gap_fresh HP.out blq arq)).mono ?_
 rintro e w2 ⟨r,rfl,hr,hb2⟩
 have HR:=Lib.hid hr;clear hr
 have HF2:=fgo w2 HF1
 have hz2:=HF2.out.1
 obtain⟨hl2_0,hl2_1⟩:=lt2 hz2
 obtain⟨_,_,_,_,_,_,_,_,-⟩:=HF2.out.alls 0 8
 go_wp2_with fail
 refine(c_FInteger (HR.out.below blq)).mono ?_
 rintro e w3 ⟨rfl,hb3⟩
 have HF3:=fgo w3 HF2
 have hz3:=HF3.out.1
 obtain⟨hl3_0,hl3_1⟩:=lt2 hz3
 obtain⟨_,_,_,_,_,_,_,_,-⟩:=HF3.out.alls 0 8
 go_wp2_with fail
 go_ret
 exact⟨by rw [HE.out];rfl,blq⟩
theorem c_FMultiple_p{x y:FV}{q p:Rat}(hx:IsF P K w x q)(hy:IsF P K w y p)(hp:p≠0)(hK:K≤100000000)(hP:∀k,w.heap.size≤k→P k)(hs:0<q.num) :
 Calls Tryz.prog 55 #[.agg #[.bool x.num.b,.slice x.num.A x.num.n x.num.c,.bool x.den.b,.slice x.den.A x.den.n x.den.c],.agg #[.bool y.num.b,.slice y.num.A y.num.n y.num.c,.bool y.den.b,.slice y.den.A y.den.n y.den.c]] w fun e w'=>e=.returned (.bool (decide (0≤q.num∧(q/p).den=1)))∧Below w.heap.size w w':=by
 have HX:=Lib.hid (hx.gap 2)
 have HK:=Lib.hid hK
 clear hx hK
 have HY:=Lib.hid (hy.gap 2)
 have HP:=Lib.hid hP
 have HN:=Lib.hid hp
 have HS:=Lib.hid (show q.num.sign=1 from Int.sign_eq_one_of_pos hs)
 have HE:=Lib.hid (show decide (0≤q.num∧(q/p).den=1)=decide ((q/p).den=1)from (by rw [decide_eq_decide];omega))
 clear hy hP hp hs
 have HF0:=Lib.hid (show Fr [(w.heap.size,0,(.bool x.num.b)),(w.heap.size,1,(.slice x.num.A x.num.n x.num.c)),(w.heap.size,2,(.bool x.den.b)),(w.heap.size,3,(.slice x.den.A x.den.n x.den.c)),(w.heap.size+1,0,(.bool y.num.b)),(w.heap.size+1,1,(.slice y.num.A y.num.n y.num.c)),(w.heap.size+1,2,(.bool y.den.b)),(w.heap.size+1,3,(.slice y.den.A y.den.n y.den.c))] (w.heap.size+1+1) ((w.alloc (.cells #[.bool x.num.b,.slice x.num.A x.num.n x.num.c,.bool x.den.b,.slice x.den.A x.den.n x.den.c] 52)).alloc (.cells #[.bool y.num.b,.slice y.num.A y.num.n y.num.c,.bool y.den.b,.slice y.den.A y.den.n y.den.c] 52))from frq)
 go_enter Tryz.func55,Tryz.ntmps55
 go_wp2_with fail
 refine(c_FSign' (HX.out.below blq) HS.out).mono ?_
 rintro e w1 ⟨rfl,hb1⟩
 have HF1:=fgo w1 HF0
 have hz1:=HF1.out.1
 obtain⟨hl1_0,hl1_1⟩:=lt2 hz1
 obtain⟨_,_,_,_,_,_,_,_,-⟩:=HF1.out.alls 0 8
 go_wp2_with fail
 refine(c_FDiv (P:=Gp P w.heap.size 2) (HX.out.below blq) (HY.out.below blq) HN.out HK.out (gap_fresh HP.out blq arq)).mono ?_
 rintro e w2 ⟨r,rfl,hr,hb2⟩
 have HR:=Lib.hid hr;clear hr
 have HF2:=fgo w2 HF1
 have hz2:=HF2.out.1
 obtain⟨hl2_0,hl2_1⟩:=lt2 hz2
 obtain⟨_,_,_,_,_,_,_,_,-⟩:=HF2.out.alls 0 8
 go_wp2_with fail
 refine(c_FInteger (HR.out.below blq)).mono ?_
 rintro e w3 ⟨rfl,hb3⟩
 have HF3:=fgo w3 HF2
 have hz3:=HF3.out.1
 obtain⟨hl3_0,hl3_1⟩:=lt2 hz3
 obtain⟨_,_,_,_,_,_,_,_,-⟩:=HF3.out.alls 0 8
 go_wp2_with fail
 go_ret
 exact⟨by rw [HE.out];rfl,blq⟩
theorem c_FMultiple{x y:FV}{q p:Rat}(hx:IsF P K w x q)(hy:IsF P K w y p)(hp:p≠0)(hK:K≤100000000)(hP:∀k,w.heap.size≤k→P k) :
 Calls Tryz.prog 55 #[.agg #[.bool x.num.b,.slice x.num.A x.num.n x.num.c,.bool x.den.b,.slice x.den.A x.den.n x.den.c],.agg #[.bool y.num.b,.slice y.num.A y.num.n y.num.c,.bool y.den.b,.slice y.den.A y.den.n y.den.c]] w fun e w'=>e=.returned (.bool (decide (0≤q.num∧(q/p).den=1)))∧Below w.heap.size w w':=by
 by_cases h1:q.num<0
 · exact c_FMultiple_n hx hy hp hK hP h1
 · by_cases h2:q.num=0
   · exact c_FMultiple_z hx hy hp hK hP h2
   · exact c_FMultiple_p hx hy hp hK hP (by omega)
theorem c_FShort2{x:FV}{z u:Int}(hx:IsW P K w x.num z)(hy:IsW P K w x.den u)(hK:K≤15637498706000) :
 Calls Tryz.prog 91 #[.agg #[.bool x.num.b,.slice x.num.A x.num.n x.num.c,.bool x.den.b,.slice x.den.A x.den.n x.den.c]] w fun e w'=>e=.returned (.bool (decide ((dec z.natAbs).length≤300∧(dec u.natAbs).length≤300)))∧Below w.heap.size w w':=by
 have HX:=Lib.hid (hx.gap 1)
 have HK:=Lib.hid hK
 clear hx hK
 have HY:=Lib.hid (hy.gap 1)
 clear hy
 have HF0:=Lib.hid (show Fr [(w.heap.size,0,(.bool x.num.b)),(w.heap.size,1,(.slice x.num.A x.num.n x.num.c)),(w.heap.size,2,(.bool x.den.b)),(w.heap.size,3,(.slice x.den.A x.den.n x.den.c))] (w.heap.size+1) (w.alloc (.cells #[.bool x.num.b,.slice x.num.A x.num.n x.num.c,.bool x.den.b,.slice x.den.A x.den.n x.den.c] 52))from frq)
 go_enter Tryz.func91,Tryz.ntmps91
 go_wp2_with fail
 refine(c_Digits (HX.out.below blq) (by have:=HK.out;omega)).mono ?_
 rintro e w1 ⟨rfl,hb1⟩
 have HF1:=fgo w1 HF0
 have hz1:=HF1.out.1
 have hl1_0:=lt1 hz1
 obtain⟨_,_,_,_,-⟩:=HF1.out.alls 0 4
 by_cases h1:(dec z.natAbs).length≤300
 · go_wp2_with fail
   refine(c_Digits (HY.out.below blq) (by have:=HK.out;omega)).mono ?_;rintro e w2 ⟨rfl,hb2⟩;have HF2:=fgo w2 HF1;have hz2:=HF2.out.1;have hl2_0:=lt1 hz2;obtain⟨_,_,_,_,-⟩:=HF2.out.alls 0 4;go_wp2_with fail
   go_ret
   refine⟨congrArg Ending.returned (?_:Value.bool (decide (((dec u.natAbs).length:Int)≤300))=_),blq⟩;exact congrArg Value.bool (decide_eq_decide.2 (by omega))
 · go_wp2_with fail
   go_ret
   refine⟨congrArg Ending.returned (?_:Value.bool false=_),blq⟩;exact rfl
theorem c_FShort{x:FV}{q:Rat}(hx:IsF P K w x q)(hK:K≤15637498706000) :
 Calls Tryz.prog 91 #[.agg #[.bool x.num.b,.slice x.num.A x.num.n x.num.c,.bool x.den.b,.slice x.den.A x.den.n x.den.c]] w fun e w'=>e=.returned (.bool (decide (Short q)))∧Below w.heap.size w w':=by
 refine(c_FShort2 hx.hn hx.hd hK).mono ?_
 rintro e w' ⟨rfl,hb⟩
 exact⟨congrArg (fun b=>Ending.returned (Value.bool b)) (decide_eq_decide.2 (by unfold Short;rw [Int.natAbs_natCast])),hb⟩
theorem c_FString_1{x:FV}{q:Rat}(hx:IsF P K w x q)(hK:K≤15637498706000)(ha:q.den=1) :
 Calls Tryz.prog 92 #[.agg #[.bool x.num.b,.slice x.num.A x.num.n x.num.c,.bool x.den.b,.slice x.den.A x.den.n x.den.c]] w fun e w'=>e=.returned (Sg (strF q))∧Below w.heap.size w w':=by
 have HX:=Lib.hid (hx.gap 1)
 have HK:=Lib.hid hK
 clear hx hK
 have HA:=Lib.hid ha
 clear ha
 have HF0:=Lib.hid (show Fr [(w.heap.size,0,(.bool x.num.b)),(w.heap.size,1,(.slice x.num.A x.num.n x.num.c)),(w.heap.size,2,(.bool x.den.b)),(w.heap.size,3,(.slice x.den.A x.den.n x.den.c))] (w.heap.size+1) (w.alloc (.cells #[.bool x.num.b,.slice x.num.A x.num.n x.num.c,.bool x.den.b,.slice x.den.A x.den.n x.den.c] 52))from frq)
 go_enter Tryz.func92,Tryz.ntmps92
 go_wp2_with fail
 refine(c_One' (HX.out.hd.below blq) (den1 HA.out)).mono ?_
 rintro e w1 ⟨rfl,hb1⟩
 have HF1:=fgo w1 HF0
 have hz1:=HF1.out.1
 have hl1_0:=lt1 hz1
 obtain⟨_,_,_,_,-⟩:=HF1.out.alls 0 4
 go_wp2_with fail
 refine(c_String (HX.out.hn.below blq) (Nat.le_trans HX.out.hn.len HK.out)).mono ?_
 rintro e w2 ⟨rfl,hb2⟩
 have HF2:=fgo w2 HF1
 have hz2:=HF2.out.1
 have hl2_0:=lt1 hz2
 obtain⟨_,_,_,_,-⟩:=HF2.out.alls 0 4
 go_wp2_with fail
 go_ret
 exact⟨by rw [strF,if_pos HA.out];rfl,blq⟩
theorem c_FString_0{x:FV}{q:Rat}(hx:IsF P K w x q)(hK:K≤15637498706000)(ha:¬q.den=1) :
 Calls Tryz.prog 92 #[.agg #[.bool x.num.b,.slice x.num.A x.num.n x.num.c,.bool x.den.b,.slice x.den.A x.den.n x.den.c]] w fun e w'=>e=.returned (Sg (strF q))∧Below w.heap.size w w':=by
 have HX:=Lib.hid (hx.gap 1)
 have HK:=Lib.hid hK
 clear hx hK
 have HA:=Lib.hid ha
 clear ha
 have HF0:=Lib.hid (show Fr [(w.heap.size,0,(.bool x.num.b)),(w.heap.size,1,(.slice x.num.A x.num.n x.num.c)),(w.heap.size,2,(.bool x.den.b)),(w.heap.size,3,(.slice x.den.A x.den.n x.den.c))] (w.heap.size+1) (w.alloc (.cells #[.bool x.num.b,.slice x.num.A x.num.n x.num.c,.bool x.den.b,.slice x.den.A x.den.n x.den.c] 52))from frq)
 go_enter Tryz.func92,Tryz.ntmps92
 go_wp2_with fail
 refine(c_One' (HX.out.hd.below blq) (den0 HA.out)).mono ?_
 rintro e w1 ⟨rfl,hb1⟩
 have HF1:=fgo w1 HF0
 have hz1:=HF1.out.1
 have hl1_0:=lt1 hz1
 obtain⟨_,_,_,_,-⟩:=HF1.out.alls 0 4
 go_wp2_with fail
 go_region_held3 (fun W=>W.cell? ⟨w.heap.size,0,none⟩=some (.bool x.num.b)∧W.cell? ⟨w.heap.size,1,none⟩=some (.slice x.num.A x.num.n x.num.c)∧W.cell? ⟨w.heap.size,2,none⟩=some (.bool x.den.b)∧W.cell? ⟨w.heap.size,3,none⟩=some (.slice x.den.A x.den.n x.den.c))
  (exact⟨(by(repeat (with_reducible refine cell_far ?_ arq));exact(HF1.out.go blq).get 0 rfl),(by(repeat (with_reducible refine cell_far ?_ arq));exact(HF1.out.go blq).get 1 rfl),(by(repeat (with_reducible refine cell_far ?_ arq));exact(HF1.out.go blq).get 2 rfl),(by(repeat (with_reducible refine cell_far ?_ arq));exact(HF1.out.go blq).get 3 rfl)⟩)
  (first
   | (go_at_call_of 64 (Value.agg #[Value.bool x.num.b,Value.slice x.num.A x.num.n x.num.c]);go_must (with_reducible refine(c_String' (HX.out.hn.below blq) HK.out).mono ?_);rintro e w2 ⟨s1,rfl,hs1,hz1s,hb2⟩;have HS1:=Lib.hid hs1;clear hs1;have HF2:=fgo w2 HF1;have hz2:=HF2.out.1;have hl2_0:=lt1 hz2;have hz1a:¬9223372036854775807<s1.size+1:=(by omega);have hz1b:¬9223372036854775807≤s1.size:=(by omega);have hz1c:s1.size<9223372036854775807:=(by omega))
   | (go_at_call_of 64 (Value.agg #[Value.bool x.den.b,Value.slice x.den.A x.den.n x.den.c]);go_must (with_reducible refine(c_String' (HX.out.hd.below blq) HK.out).mono ?_);rintro e w3 ⟨s2,rfl,hs2,hz2s,hb3⟩;have HS2:=Lib.hid hs2;clear hs2;have HF3:=fgo w3 HF1;have hz3:=HF3.out.1;have hl3_0:=lt1 hz3;have hz2a:¬9223372036854775807<s1.size+1+s2.size:=(by omega);have hz2b:s1.size+1+s2.size≤9223372036854775807:=(by omega)))
 go_wp2_with fail
 all_goals (go_ret;refine⟨congrArg Ending.returned (?_:Value.string (s1++⟨#[47]⟩++s2)=_),blq⟩;rw [sg_of,cat3,strF,if_neg HA.out,←strW_nat,←HS1.out,←HS2.out])
theorem c_FString{x:FV}{q:Rat}(hx:IsF P K w x q)(hK:K≤15637498706000) :
 Calls Tryz.prog 92 #[.agg #[.bool x.num.b,.slice x.num.A x.num.n x.num.c,.bool x.den.b,.slice x.den.A x.den.n x.den.c]] w fun e w'=>e=.returned (Sg (strF q))∧Below w.heap.size w w':=by
 by_cases h1:q.den=1
 · exact c_FString_1 hx hK h1
 · exact c_FString_0 hx hK h1
end
end Go.Proofs.YtpdghgfbfmaplaaGreatDoor.Wh
end
