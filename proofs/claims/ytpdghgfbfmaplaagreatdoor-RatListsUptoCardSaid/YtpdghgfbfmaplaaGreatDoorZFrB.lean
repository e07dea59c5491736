/- Lemmas for RatLists. -/
import Derived.Test.YtpdghgfbfmaplaaGreatDoorZFrA
set_option maxRecDepth 100000
set_option maxHeartbeats 8000000
section
set_option linter.unusedVariables false
set_option linter.unusedSimpArgs false
namespace Go.Proofs.YtpdghgfbfmaplaaGreatDoor.Wh
open Go.RowKit Go.Proofs.YtpdghgfbfmaplaaGreatDoorW.PrintWords Go.Proofs.YtpdghgfbfmaplaaGreatDoor.Num Go.Proofs.YtpdghgfbfmaplaaGreatDoor.Dec
section
variable {P:Nat→Prop} {K K':Nat} {w:World}
theorem c_FOf(a:Int)(h1: -9223372036854775808≤a)(h2:a≤9223372036854775807)(hP:∀k,w.heap.size≤k→P k) :
 Calls Tryz.prog 78 #[.int .i64 a] w fun e w'=>∃r:FV,e=.returned (.agg #[.bool r.num.b,.slice r.num.A r.num.n r.num.c,.bool r.den.b,.slice r.den.A r.den.n r.den.c])∧IsF P 3 w' r (a:Rat)∧Below w.heap.size w w':=by
 have HP:=Lib.hid hP
 clear hP
 have HF0:=Lib.hid (show Fr [(w.heap.size,0,(.bool false)),(w.heap.size,1,(.slice none 0 0)),(w.heap.size,2,(.bool false)),(w.heap.size,3,(.slice none 0 0))] (w.heap.size+1) (w.alloc (.cells #[.bool false,.slice none 0 0,.bool false,.slice none 0 0] 52))from frq)
 go_enter Tryz.func78,Tryz.ntmps78
 go_wp2_with fail
 refine(c_Of (P:=Gp P w.heap.size 1) a (by omega) (by omega) (gap_fresh HP.out blo arq)).mono ?_
 rintro e w1 ⟨x1,rfl,hx1,hb1⟩
 have HX1:=Lib.hid hx1;clear hx1
 have HF1:=Lib.hid (show Fr _ _ w1 from HF0.out.go blo)
 have hz1:=HF1.out.1
 have hl1_0:=lt1 hz1
 obtain⟨_,_,_,_,-⟩:=HF1.out.alls 0 4
 obtain⟨_,_,_,_,-⟩:=HF1.out.falls 0 4
 go_wp2_with fail
 refine(c_Of (P:=Gp P w.heap.size 1) 1 (by omega) (by omega) (gap_fresh HP.out blo arq)).mono ?_
 rintro e w2 ⟨x2,rfl,hx2,hb2⟩
 have HX2:=Lib.hid hx2;clear hx2
 have HF2:=Lib.hid (show Fr _ _ w2 from HF1.out.go blo)
 have hz2:=HF2.out.1
 have hl2_0:=lt1 hz2
 obtain⟨q2_0,q2_1,q2_2,q2_3,-⟩:=HF2.out.alls 0 4
 obtain⟨_,_,_,_,-⟩:=HF2.out.falls 0 4
 go_wp2_with fail
 refine bodyPost_ret (v:=.agg #[.bool (FV.mk x1 x2).num.b,.slice (FV.mk x1 x2).num.A (FV.mk x1 x2).num.n (FV.mk x1 x2).num.c,.bool (FV.mk x1 x2).den.b,.slice (FV.mk x1 x2).den.A (FV.mk x1 x2).den.n (FV.mk x1 x2).den.c]) (by simp [results,Tryz.results78,go_sem,q2_0,q2_1,q2_2,q2_3]) rfl ⟨⟨x1,x2⟩,rfl,IsF.ungap (s:=w.heap.size) (n:=1) ⟨?_,?_⟩,blo⟩
 · exact(((((HX1.out.below hb2).put _ arq arq).put _ arq arq).put _ arq arq).put _ arq arq)
 · exact((((HX2.out.put _ arq arq).put _ arq arq).put _ arq arq).put _ arq arq)
theorem c_FNum(x:FV) :
 Calls Tryz.prog 63 #[.agg #[.bool x.num.b,.slice x.num.A x.num.n x.num.c,.bool x.den.b,.slice x.den.A x.den.n x.den.c]] w fun e w'=>e=.returned (.agg #[.bool x.num.b,.slice x.num.A x.num.n x.num.c])∧Below w.heap.size w w':=by
 have HF0:=Lib.hid (show Fr [(w.heap.size,0,(.bool x.num.b)),(w.heap.size,1,(.slice x.num.A x.num.n x.num.c)),(w.heap.size,2,(.bool x.den.b)),(w.heap.size,3,(.slice x.den.A x.den.n x.den.c)),(w.heap.size+1,0,(.bool false)),(w.heap.size+1,1,(.slice none 0 0))] (w.heap.size+1+1) ((w.alloc (.cells #[.bool x.num.b,.slice x.num.A x.num.n x.num.c,.bool x.den.b,.slice x.den.A x.den.n x.den.c] 52)).alloc (.cells #[.bool false,.slice none 0 0] 50))from frq)
 go_enter Tryz.func63,Tryz.ntmps63
 have q0_4:=HF0.out.get 4 rfl
 have q0_5:=HF0.out.get 5 rfl
 go_wp2_with fail
 refine bodyPost_ret (v:=.agg #[.bool x.num.b,.slice x.num.A x.num.n x.num.c]) (by simp [results,Tryz.results63,go_sem,q0_4,q0_5]) rfl ⟨rfl,blo⟩
theorem c_FDen(x:FV) :
 Calls Tryz.prog 65 #[.agg #[.bool x.num.b,.slice x.num.A x.num.n x.num.c,.bool x.den.b,.slice x.den.A x.den.n x.den.c]] w fun e w'=>e=.returned (.agg #[.bool x.den.b,.slice x.den.A x.den.n x.den.c])∧Below w.heap.size w w':=by
 have HF0:=Lib.hid (show Fr [(w.heap.size,0,(.bool x.num.b)),(w.heap.size,1,(.slice x.num.A x.num.n x.num.c)),(w.heap.size,2,(.bool x.den.b)),(w.heap.size,3,(.slice x.den.A x.den.n x.den.c)),(w.heap.size+1,0,(.bool false)),(w.heap.size+1,1,(.slice none 0 0))] (w.heap.size+1+1) ((w.alloc (.cells #[.bool x.num.b,.slice x.num.A x.num.n x.num.c,.bool x.den.b,.slice x.den.A x.den.n x.den.c] 52)).alloc (.cells #[.bool false,.slice none 0 0] 50))from frq)
 go_enter Tryz.func65,Tryz.ntmps65
 have q0_4:=HF0.out.get 4 rfl
 have q0_5:=HF0.out.get 5 rfl
 go_wp2_with fail
 refine bodyPost_ret (v:=.agg #[.bool x.den.b,.slice x.den.A x.den.n x.den.c]) (by simp [results,Tryz.results65,go_sem,q0_4,q0_5]) rfl ⟨rfl,blo⟩
theorem c_FInteger{x:FV}{q:Rat}(hx:IsF P K w x q) :
 Calls Tryz.prog 87 #[.agg #[.bool x.num.b,.slice x.num.A x.num.n x.num.c,.bool x.den.b,.slice x.den.A x.den.n x.den.c]] w fun e w'=>e=.returned (.bool (decide (q.den=1)))∧Below w.heap.size w w':=by
 have HX:=Lib.hid hx
 have HE:=Lib.hid (show decide (q.den=1)=decide ((q.den:Int)=1) by rw [decide_eq_decide];omega)
 clear hx
 have HF0:=Lib.hid (show Fr [(w.heap.size,0,(.bool x.num.b)),(w.heap.size,1,(.slice x.num.A x.num.n x.num.c)),(w.heap.size,2,(.bool x.den.b)),(w.heap.size,3,(.slice x.den.A x.den.n x.den.c))] (w.heap.size+1) (w.alloc (.cells #[.bool x.num.b,.slice x.num.A x.num.n x.num.c,.bool x.den.b,.slice x.den.A x.den.n x.den.c] 52))from frq)
 go_enter Tryz.func87,Tryz.ntmps87
 go_wp2_with fail
 refine(c_One (HX.out.hd.below blo)).mono ?_
 rintro e w1 ⟨rfl,hb1⟩
 have HF1:=Lib.hid (show Fr _ _ w1 from HF0.out.go blo)
 have hz1:=HF1.out.1
 have hl1_0:=lt1 hz1
 obtain⟨_,_,_,_,-⟩:=HF1.out.alls 0 4
 go_wp2_with fail
 go_ret
 exact⟨by rw [HE.out];rfl,blo⟩
theorem c_FSign{x:FV}{q:Rat}(hx:IsF P K w x q) :
 Calls Tryz.prog 47 #[.agg #[.bool x.num.b,.slice x.num.A x.num.n x.num.c,.bool x.den.b,.slice x.den.A x.den.n x.den.c]] w fun e w'=>e=.returned (.int .i64 q.num.sign)∧Below w.heap.size w w':=by
 have HX:=Lib.hid hx
 clear hx
 have HF0:=Lib.hid (show Fr [(w.heap.size,0,(.bool x.num.b)),(w.heap.size,1,(.slice x.num.A x.num.n x.num.c)),(w.heap.size,2,(.bool x.den.b)),(w.heap.size,3,(.slice x.den.A x.den.n x.den.c))] (w.heap.size+1) (w.alloc (.cells #[.bool x.num.b,.slice x.num.A x.num.n x.num.c,.bool x.den.b,.slice x.den.A x.den.n x.den.c] 52))from frq)
 go_enter Tryz.func47,Tryz.ntmps47
 go_wp2_with fail
 refine(c_Sign (HX.out.hn.below blo)).mono ?_
 rintro e w1 ⟨rfl,hb1⟩
 have HF1:=Lib.hid (show Fr _ _ w1 from HF0.out.go blo)
 have hz1:=HF1.out.1
 have hl1_0:=lt1 hz1
 obtain⟨_,_,_,_,-⟩:=HF1.out.alls 0 4
 go_wp2_with fail
 go_ret
 exact⟨rfl,blo⟩
theorem c_FNeg{x:FV}{q:Rat}(hx:IsF P K w x q)(hK:K≤20000000000000)(hP:∀k,w.heap.size≤k→P k) :
 Calls Tryz.prog 50 #[.agg #[.bool x.num.b,.slice x.num.A x.num.n x.num.c,.bool x.den.b,.slice x.den.A x.den.n x.den.c]] w fun e w'=>∃r:FV,e=.returned (.agg #[.bool r.num.b,.slice r.num.A r.num.n r.num.c,.bool r.den.b,.slice r.den.A r.den.n r.den.c])∧IsF P K w' r (-q)∧Below w.heap.size w w':=by
 have HX:=Lib.hid (hx.gap 2)
 have HP:=Lib.hid hP
 clear hx hP
 have HF0:=Lib.hid (show Fr [(w.heap.size,0,(.bool x.num.b)),(w.heap.size,1,(.slice x.num.A x.num.n x.num.c)),(w.heap.size,2,(.bool x.den.b)),(w.heap.size,3,(.slice x.den.A x.den.n x.den.c)),(w.heap.size+1,0,(.bool false)),(w.heap.size+1,1,(.slice none 0 0)),(w.heap.size+1,2,(.bool false)),(w.heap.size+1,3,(.slice none 0 0))] (w.heap.size+1+1) ((w.alloc (.cells #[.bool x.num.b,.slice x.num.A x.num.n x.num.c,.bool x.den.b,.slice x.den.A x.den.n x.den.c] 52)).alloc (.cells #[.bool false,.slice none 0 0,.bool false,.slice none 0 0] 52))from frq)
 go_enter Tryz.func50,Tryz.ntmps50
 go_wp2_with fail
 go_region_held3 (fun W=>W.cell? ⟨w.heap.size,0,none⟩=some (.bool x.num.b)∧W.cell? ⟨w.heap.size,1,none⟩=some (.slice x.num.A x.num.n x.num.c)∧W.cell? ⟨w.heap.size,2,none⟩=some (.bool x.den.b)∧W.cell? ⟨w.heap.size,3,none⟩=some (.slice x.den.A x.den.n x.den.c))
  (exact⟨(by(repeat (with_reducible refine cell_far ?_ arq));exact(HF0.out.go blo).get 0 rfl),(by(repeat (with_reducible refine cell_far ?_ arq));exact(HF0.out.go blo).get 1 rfl),(by(repeat (with_reducible refine cell_far ?_ arq));exact(HF0.out.go blo).get 2 rfl),(by(repeat (with_reducible refine cell_far ?_ arq));exact(HF0.out.go blo).get 3 rfl)⟩)
  (first
   | (go_at_call 93;go_must (with_reducible refine(c_Neg (P:=Gp P w.heap.size 2) (HX.out.hn.below blo) (by omega) (gap_fresh HP.out blo arq)).mono ?_);rintro e w1 ⟨x1,rfl,hx1,hb1⟩;have HX1:=Lib.hid hx1;clear hx1;have HF1:=Lib.hid (show Fr _ _ w1 from HF0.out.go blo);have hz1:=HF1.out.1;obtain⟨hl1_0,hl1_1⟩:=lt2 hz1;obtain⟨q1_4,q1_5,q1_6,q1_7,-⟩:=HF1.out.alls 4 4;obtain⟨_,_,_,_,-⟩:=HF1.out.falls 4 4))
 go_wp2_with fail
 refine bodyPost_ret (v:=.agg #[.bool (FV.mk x1 x.den).num.b,.slice (FV.mk x1 x.den).num.A (FV.mk x1 x.den).num.n (FV.mk x1 x.den).num.c,.bool (FV.mk x1 x.den).den.b,.slice (FV.mk x1 x.den).den.A (FV.mk x1 x.den).den.n (FV.mk x1 x.den).den.c]) (by simp [results,Tryz.results50,go_sem,q1_4,q1_5,q1_6,q1_7]) rfl ⟨⟨x1,x.den⟩,rfl,IsF.ungap (s:=w.heap.size) (n:=2) ⟨?_,?_⟩,blo⟩
 · rw [Rat.neg_num];exact((((HX1.out.put _ arq arq).put _ arq arq).put _ arq arq).put _ arq arq)
 · rw [Rat.neg_den];exact(((((HX.out.hd.below blo).put _ arq arq).put _ arq arq).put _ arq arq).put _ arq arq)
end
end Go.Proofs.YtpdghgfbfmaplaaGreatDoor.Wh
end
