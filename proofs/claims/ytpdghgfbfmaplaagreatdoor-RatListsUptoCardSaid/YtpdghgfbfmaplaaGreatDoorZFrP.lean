/- Lemmas for RatLists. -/
import Derived.Test.YtpdghgfbfmaplaaGreatDoorZFrE
set_option maxRecDepth 100000
set_option maxHeartbeats 8000000
section
set_option linter.unusedVariables false
set_option linter.unusedSimpArgs false
namespace Go.Proofs.YtpdghgfbfmaplaaGreatDoor.Wh
open Go.RowKit Go.Proofs.YtpdghgfbfmaplaaGreatDoorW.PrintWords Go.Proofs.YtpdghgfbfmaplaaGreatDoor.Num Go.Proofs.YtpdghgfbfmaplaaGreatDoor.Dec
theorem Fr.new4{L:List (Nat×Nat×Value)}{s:Nat}{W:World}(h:Fr L s W)(v0 v1 v2 v3:Value)(t:TypeId):Fr ((W.heap.size,0,v0) :: (W.heap.size,1,v1) :: (W.heap.size,2,v2) :: (W.heap.size,3,v3) :: L) (W.heap.size+1) (W.alloc (.cells #[v0,v1,v2,v3] t)):=by
 have h1:Fr L s (W.alloc (.cells #[v0,v1,v2,v3] t)):=h.go ((Below.refl _ _).alloc (Nat.le_refl _) _)
 have hs:W.heap.size+1≤(W.alloc (.cells #[v0,v1,v2,v3] t)).heap.size:=by simp
 exact((((h1.up (Nat.le_succ_of_le h.1) hs).cons (by omega) (by simp) (by simp)).cons (by omega) (by simp) (by simp)).cons (by omega) (by simp) (by simp)).cons (by omega) (by simp) (by simp)
theorem split47:∀(a b c d:List UInt8),(47:UInt8)∉a→(47:UInt8)∉c→a++47 :: b=c++47 :: d→a=c∧b=d:=by
 intro a
 induction a with
 | nil =>
  intro b c d _ hc e;cases c with
  | nil=>exact ⟨rfl,(List.cons.inj e).2⟩
  | cons x t=>exact absurd (List.cons.inj e).1 (fun e=>hc (by rw [←e];exact List.mem_cons_self))
 | cons x t ih =>
  intro b c d ha hc e;cases c with
  | nil=>exact absurd (List.cons.inj e).1 (fun e=>ha (by rw [e];exact List.mem_cons_self))
  | cons y s =>
   obtain⟨e1,e2⟩:=List.cons.inj e;obtain⟨e3,e4⟩:=ih b s d (fun m=>ha (List.mem_cons_of_mem _ m)) (fun m=>hc (List.mem_cons_of_mem _ m)) e2;exact⟨by rw [e1,e3],e4⟩
theorem strF_split{a b:List UInt8}{q:Rat}(h:a++47 :: b=strF q)(ha:(47:UInt8)∉a):a=strW q.num∧b=dec q.den∧¬q.den=1:=by
 unfold strF at h
 by_cases hd:q.den=1
 · rw [if_pos hd]at h;exact absurd (show(47:UInt8)∈strW q.num by rw [←h];simp) (strW_no _)
 · rw [if_neg hd]at h;obtain⟨e1,e2⟩:=split47 _ _ _ _ ha (strW_no _) h;exact⟨e1,e2,hd⟩
theorem strF_two{z u:Int}{q:Rat}(h:strW z++47 :: strW u=strF q):q.num=z∧(q.den:Int)=u∧1<u:=by
 obtain⟨e1,e2,e3⟩:=strF_split h (strW_no _)
 rw [←strW_nat]at e2
 have h1:=strW_inj e1
 have h2:=strW_inj e2
 have:=q.den_nz
 exact⟨h1.symm,h2.symm,by omega⟩
theorem strF_first{a b:List UInt8}{q:Rat}(h:a++47 :: b=strF q)(ha:(47:UInt8)∉a):∃z,a=strW z:=⟨_,(strF_split h ha).1⟩
theorem strF_second{z:Int}{b:List UInt8}{q:Rat}(h:strW z++47 :: b=strF q)(ha:(47:UInt8)∉strW z):∃u,b=strW u:=⟨(q.den:Int),by rw [strW_nat];exact(strF_split h ha).2.1⟩
theorem strF_whole{l:List UInt8}{q:Rat}(h:l=strF q)(hs:(47:UInt8)∉l):∃z,l=strW z:=by
 unfold strF at h
 split at h
 · exact⟨_,h⟩
 · exact absurd (by rw [h];simp) hs
set_option exponentiation.threshold 400 in
theorem short_lt{n:Nat}(h:(dec n).length≤300):n<1000000000^34:=by
 have h1:=dval_lt (dec_digs n)
 rw [dval_dec]at h1
 exact Nat.lt_of_lt_of_le h1 (Nat.le_trans (Nat.pow_le_pow_right (by decide) h) (by decide))
section
variable {P:Nat→Prop} {K K':Nat} {w:World}
theorem c_Parse_no(l:List UInt8)(hl:l.length≤140737488351232)(hP:∀k,w.heap.size≤k→P k)(hn:∀z,l≠strW z) :
 Calls Tryz.prog 102 #[Sg l] w fun e w'=>e=.returned (.tuple #[.agg #[.bool false,.slice none 0 0],.bool false])∧Below w.heap.size w w':=by
 refine(c_Parse l hl hP).mono ?_
 rintro e w' (⟨z,x,h,-⟩|⟨-,h⟩)
 · exact absurd h (hn z)
 · exact h
theorem c_Parse_yes(z:Int)(hl:(strW z).length≤140737488351232)(hP:∀k,w.heap.size≤k→P k) :
 Calls Tryz.prog 102 #[Sg (strW z)] w fun e w'=>∃x:WV,e=.returned (.tuple #[.agg #[.bool x.b,.slice x.A x.n x.c],.bool true])∧IsW P 15637498706000 w' x z∧Below w.heap.size w w':=by
 refine(c_Parse _ hl hP).mono ?_
 rintro e w' (⟨u,x,h,h1,h2,h3⟩|⟨h,-⟩)
 · obtain rfl:=strW_inj h;exact⟨x,h1,h2.wide (by omega),h3⟩
 · exact absurd rfl (h z)
theorem c_Cmp'{x y:WV}{z u b:Int}(hx:IsW P K w x z)(hy:IsW P K w y u)(hK:K≤20000000000000)(hP:∀k,w.heap.size≤k→P k)(hb:(z-u).sign=b) :
 Calls Tryz.prog 104 #[.agg #[.bool x.b,.slice x.A x.n x.c],.agg #[.bool y.b,.slice y.A y.n y.c]] w fun e w'=>e=.returned (.int .i64 b)∧Below w.heap.size w w':=hb▸c_Cmp hx hy hK hP
theorem c_FShort2'{x:FV}{z u:Int}{b:Bool}(hx:IsW P K w x.num z)(hy:IsW P K w x.den u)(hK:K≤15637498706000)(hb:decide ((dec z.natAbs).length≤300∧(dec u.natAbs).length≤300)=b) :
 Calls Tryz.prog 91 #[.agg #[.bool x.num.b,.slice x.num.A x.num.n x.num.c,.bool x.den.b,.slice x.den.A x.den.n x.den.c]] w fun e w'=>e=.returned (.bool b)∧Below w.heap.size w w':=hb▸c_FShort2 hx hy hK
theorem p_nn(l:List UInt8)(hl:l.length≤140737488351232)(hn:(47:UInt8)∉l)(hm:∀z,l≠strW z)(hP:∀k,w.heap.size≤k→P k) :
 Calls Tryz.prog 62 #[Sg l] w fun e w'=>e=.returned (.tuple #[.agg #[.bool false,.slice none 0 0,.bool false,.slice none 0 0],.bool false])∧Below w.heap.size w w':=by
 have HP:=Lib.hid hP
 clear hP
 have HL:=Lib.hid hl
 clear hl
 have HN:=Lib.hid hn
 clear hn
 have HM:=Lib.hid hm
 clear hm
 have HF0:=Lib.hid (show Fr [(w.heap.size,0,(.bool false)),(w.heap.size,1,(.slice none 0 0)),(w.heap.size,2,(.bool false)),(w.heap.size,3,(.slice none 0 0))] (w.heap.size+1) (w.alloc (.cells #[.bool false,.slice none 0 0,.bool false,.slice none 0 0] 52))from frq)
 go_enter Tryz.func62,Tryz.ntmps62
 go_wp2_with fail
 refine(c_Cut_no l _ HN.out).mono ?_
 rintro e w1 ⟨rfl,hb1⟩
 have HF1:=fgo w1 HF0
 have hz1:=HF1.out.1
 have hl1_0:=lt1 hz1
 obtain⟨_,_,_,_,-⟩:=HF1.out.alls 0 4
 obtain⟨_,_,_,_,-⟩:=HF1.out.falls 0 4
 go_wp2_with fail
 refine(c_Parse_no (P:=Gp P w.heap.size 1) l HL.out (gap_fresh HP.out blq arq) HM.out).mono ?_
 rintro e w2 ⟨rfl,hb2⟩
 have HF2:=fgo w2 HF1
 have hz2:=HF2.out.1
 have hl2_0:=lt1 hz2
 obtain⟨q2_0,q2_1,q2_2,q2_3,-⟩:=HF2.out.alls 0 4
 obtain⟨_,_,_,_,-⟩:=HF2.out.falls 0 4
 have HFb2:=Lib.hid (HF2.out.new1 (.bool false) (.slice none 0 0) 50)
 go_wp2_with fail
 refine bodyPost_ret (v:=.tuple #[.agg #[.bool false,.slice none 0 0,.bool false,.slice none 0 0],.bool false]) (by simp [results,Tryz.results62,go_sem,q2_0,q2_1,q2_2,q2_3,hl2_0,Nat.ne_of_lt hl2_0,Nat.ne_of_gt hl2_0]) rfl ⟨rfl,blq⟩
theorem p_ny(z:Int)(hl:(strW z).length≤140737488351232)(hn:(47:UInt8)∉strW z)(hP:∀k,w.heap.size≤k→P k) :
 Calls Tryz.prog 62 #[Sg (strW z)] w fun e w'=>∃x:FV,e=.returned (.tuple #[.agg #[.bool x.num.b,.slice x.num.A x.num.n x.num.c,.bool x.den.b,.slice x.den.A x.den.n x.den.c],.bool (decide (((dec z.natAbs).length:Int)≤300))])∧IsW P 15637498706000 w' x.num z∧IsW P 15637498706000 w' x.den 1∧Below w.heap.size w w':=by
 have HP:=Lib.hid hP
 clear hP
 have HL:=Lib.hid hl
 clear hl
 have HN:=Lib.hid hn
 clear hn
 have HF0:=Lib.hid (show Fr [(w.heap.size,0,(.bool false)),(w.heap.size,1,(.slice none 0 0)),(w.heap.size,2,(.bool false)),(w.heap.size,3,(.slice none 0 0))] (w.heap.size+1) (w.alloc (.cells #[.bool false,.slice none 0 0,.bool false,.slice none 0 0] 52))from frq)
 go_enter Tryz.func62,Tryz.ntmps62
 go_wp2_with fail
 refine(c_Cut_no (strW z) _ HN.out).mono ?_
 rintro e w1 ⟨rfl,hb1⟩
 have HF1:=fgo w1 HF0
 have hz1:=HF1.out.1
 have hl1_0:=lt1 hz1
 obtain⟨_,_,_,_,-⟩:=HF1.out.alls 0 4
 obtain⟨_,_,_,_,-⟩:=HF1.out.falls 0 4
 go_wp2_with fail
 refine(c_Parse_yes (P:=Gp P w.heap.size 1) z HL.out (gap_fresh HP.out blq arq)).mono ?_
 rintro e w2 ⟨x1,rfl,hx1,hb2⟩
 have HX1:=Lib.hid hx1;clear hx1
 have HF2:=fgo w2 HF1
 have hz2:=HF2.out.1
 have hl2_0:=lt1 hz2
 obtain⟨_,_,_,_,-⟩:=HF2.out.alls 0 4
 obtain⟨_,_,_,_,-⟩:=HF2.out.falls 0 4
 have HFb2:=Lib.hid (HF2.out.new1 (.bool x1.b) (.slice x1.A x1.n x1.c) 50)
 go_wp2_with fail
 go_region_held3 (fun W=>W.cell? ⟨w2.heap.size,0,none⟩=some (.bool x1.b)∧W.cell? ⟨w2.heap.size,1,none⟩=some (.slice x1.A x1.n x1.c))
  (exact⟨(by(repeat (with_reducible refine cell_far ?_ arq));exact(HFb2.out.go blq).get 0 rfl),(by(repeat (with_reducible refine cell_far ?_ arq));exact(HFb2.out.go blq).get 1 rfl)⟩)
  (first
   | (go_at_call 59;go_must (with_reducible refine(c_Of (P:=Gp P w.heap.size 1) 1 (by omega) (by omega) (gap_fresh HP.out blq arq)).mono ?_);rintro e w3 ⟨x2,rfl,hx2,hb3⟩;have HX2:=Lib.hid hx2;clear hx2;have HF3:=fgo w3 HFb2;have hz3:=HF3.out.1;have hl3_0:w.heap.size<w3.heap.size:=(by omega);have hx3_0:w2.heap.size<w3.heap.size:=(by omega);obtain⟨_,_,_,_,-⟩:=HF3.out.alls 2 4;obtain⟨_,_,_,_,-⟩:=HF3.out.falls 2 4)
   | (go_at_call 103;go_must (with_reducible refine(c_Digits (HX1.out.below blq) (Nat.le_refl _)).mono ?_);rintro e w4 ⟨rfl,hb4⟩;have HF4:=fgo w4 HFb2;have hz4:=HF4.out.1;have hl4_0:w.heap.size<w4.heap.size:=(by omega);have hx4_0:w2.heap.size<w4.heap.size:=(by omega);obtain⟨q4_2,q4_3,q4_4,q4_5,-⟩:=HF4.out.alls 2 4;obtain⟨_,_,_,_,-⟩:=HF4.out.falls 2 4))
 go_wp2_with fail
 refine bodyPost_ret (v:=.tuple #[.agg #[.bool (FV.mk x1 x2).num.b,.slice (FV.mk x1 x2).num.A (FV.mk x1 x2).num.n (FV.mk x1 x2).num.c,.bool (FV.mk x1 x2).den.b,.slice (FV.mk x1 x2).den.A (FV.mk x1 x2).den.n (FV.mk x1 x2).den.c],.bool (decide (((dec z.natAbs).length:Int)≤300))]) (by simp [results,Tryz.results62,go_sem,q4_2,q4_3,q4_4,q4_5,hl4_0,Nat.ne_of_lt hl4_0,Nat.ne_of_gt hl4_0]) rfl ⟨⟨x1,x2⟩,rfl,?_,?_,blq⟩
 · exact IsW.ungap (s:=w.heap.size) (n:=1) ((((((HX1.out.below blq).put _ arq arq).put _ arq arq).put _ arq arq).put _ arq arq))
 · exact IsW.ungap (s:=w.heap.size) (n:=1) (((((((HX2.out.wide (by omega)).below blq).put _ arq arq).put _ arq arq).put _ arq arq).put _ arq arq))
theorem p_sn(a b:List UInt8)(hl:(a++47 :: b).length≤140737488351232)(hn:(47:UInt8)∉a)(hm:∀z,a≠strW z)(hP:∀k,w.heap.size≤k→P k) :
 Calls Tryz.prog 62 #[Sg (a++47 :: b)] w fun e w'=>e=.returned (.tuple #[.agg #[.bool false,.slice none 0 0,.bool false,.slice none 0 0],.bool false])∧Below w.heap.size w w':=by
 have HP:=Lib.hid hP
 clear hP
 have HL:=Lib.hid hl
 clear hl
 have HN:=Lib.hid hn
 clear hn
 have HM:=Lib.hid hm
 clear hm
 have HF0:=Lib.hid (show Fr [(w.heap.size,0,(.bool false)),(w.heap.size,1,(.slice none 0 0)),(w.heap.size,2,(.bool false)),(w.heap.size,3,(.slice none 0 0))] (w.heap.size+1) (w.alloc (.cells #[.bool false,.slice none 0 0,.bool false,.slice none 0 0] 52))from frq)
 go_enter Tryz.func62,Tryz.ntmps62
 go_wp2_with fail
 refine(c_Cut_yes a b _ HN.out (by have:=HL.out;omega)).mono ?_
 rintro e w1 ⟨rfl,hb1⟩
 have HF1:=fgo w1 HF0
 have hz1:=HF1.out.1
 have hl1_0:=lt1 hz1
 obtain⟨_,_,_,_,-⟩:=HF1.out.alls 0 4
 obtain⟨_,_,_,_,-⟩:=HF1.out.falls 0 4
 go_wp2_with fail
 refine(c_Parse_no (P:=Gp P w.heap.size 1) a (by have:=HL.out;simp at this;omega) (gap_fresh HP.out blq arq) HM.out).mono ?_
 rintro e w2 ⟨rfl,hb2⟩
 have HF2:=fgo w2 HF1
 have hz2:=HF2.out.1
 have hl2_0:=lt1 hz2
 obtain⟨q2_0,q2_1,q2_2,q2_3,-⟩:=HF2.out.alls 0 4
 obtain⟨_,_,_,_,-⟩:=HF2.out.falls 0 4
 have HFb2:=Lib.hid (HF2.out.new1 (.bool false) (.slice none 0 0) 50)
 go_wp2_with fail
 refine bodyPost_ret (v:=.tuple #[.agg #[.bool false,.slice none 0 0,.bool false,.slice none 0 0],.bool false]) (by simp [results,Tryz.results62,go_sem,q2_0,q2_1,q2_2,q2_3,hl2_0,Nat.ne_of_lt hl2_0,Nat.ne_of_gt hl2_0]) rfl ⟨rfl,blq⟩
theorem p_syn(z:Int)(b:List UInt8)(hl:(strW z++47 :: b).length≤140737488351232)(hn:(47:UInt8)∉strW z)(hm:∀u,b≠strW u)(hP:∀k,w.heap.size≤k→P k) :
 Calls Tryz.prog 62 #[Sg (strW z++47 :: b)] w fun e w'=>e=.returned (.tuple #[.agg #[.bool false,.slice none 0 0,.bool false,.slice none 0 0],.bool false])∧Below w.heap.size w w':=by
 have HP:=Lib.hid hP
 clear hP
 have HL:=Lib.hid hl
 clear hl
 have HN:=Lib.hid hn
 clear hn
 have HM:=Lib.hid hm
 clear hm
 have HF0:=Lib.hid (show Fr [(w.heap.size,0,(.bool false)),(w.heap.size,1,(.slice none 0 0)),(w.heap.size,2,(.bool false)),(w.heap.size,3,(.slice none 0 0))] (w.heap.size+1) (w.alloc (.cells #[.bool false,.slice none 0 0,.bool false,.slice none 0 0] 52))from frq)
 go_enter Tryz.func62,Tryz.ntmps62
 go_wp2_with fail
 refine(c_Cut_yes (strW z) b _ HN.out (by have:=HL.out;omega)).mono ?_
 rintro e w1 ⟨rfl,hb1⟩
 have HF1:=fgo w1 HF0
 have hz1:=HF1.out.1
 have hl1_0:=lt1 hz1
 obtain⟨_,_,_,_,-⟩:=HF1.out.alls 0 4
 obtain⟨_,_,_,_,-⟩:=HF1.out.falls 0 4
 go_wp2_with fail
 refine(c_Parse_yes (P:=Gp P w.heap.size 1) z (by have:=HL.out;simp at this;omega) (gap_fresh HP.out blq arq)).mono ?_
 rintro e w2 ⟨x1,rfl,hx1,hb2⟩
 have HX1:=Lib.hid hx1;clear hx1
 have HF2:=fgo w2 HF1
 have hz2:=HF2.out.1
 have hl2_0:=lt1 hz2
 obtain⟨_,_,_,_,-⟩:=HF2.out.alls 0 4
 obtain⟨_,_,_,_,-⟩:=HF2.out.falls 0 4
 have HFb2:=Lib.hid (HF2.out.new1 (.bool x1.b) (.slice x1.A x1.n x1.c) 50)
 go_wp2_with fail
 refine(c_Parse_no (P:=Gp P w.heap.size 1) b (by have:=HL.out;simp at this;omega) (gap_fresh HP.out blq arq) HM.out).mono ?_
 rintro e w3 ⟨rfl,hb3⟩
 have HF3:=fgo w3 HFb2
 have hz3:=HF3.out.1
 have hl3_0:w.heap.size<w3.heap.size:=(by omega)
 have hx3_0:w2.heap.size<w3.heap.size:=(by omega)
 obtain⟨_,_,q3_2,q3_3,q3_4,q3_5,-⟩:=HF3.out.alls 0 6
 obtain⟨_,_,_,_,-⟩:=HF3.out.falls 2 4
 have HFb3:=Lib.hid (HF3.out.new1 (.bool false) (.slice none 0 0) 50)
 go_wp2_with fail
 go_region_with fail
 all_goals (go_wp2_with fail)
 all_goals (refine bodyPost_ret (v:=.tuple #[.agg #[.bool false,.slice none 0 0,.bool false,.slice none 0 0],.bool false]) (by simp [results,Tryz.results62,go_sem,q3_2,q3_3,q3_4,q3_5,hl3_0,Nat.ne_of_lt hl3_0,Nat.ne_of_gt hl3_0]) rfl ⟨rfl,blq⟩)
theorem p_sym(z u:Int)(hl:(strW z++47 :: strW u).length≤140737488351232)(hn:(47:UInt8)∉strW z)(hu:u<1)(hP:∀k,w.heap.size≤k→P k) :
 Calls Tryz.prog 62 #[Sg (strW z++47 :: strW u)] w fun e w'=>e=.returned (.tuple #[.agg #[.bool false,.slice none 0 0,.bool false,.slice none 0 0],.bool false])∧Below w.heap.size w w':=by
 have HP:=Lib.hid hP
 clear hP
 have HL:=Lib.hid hl
 clear hl
 have HN:=Lib.hid hn
 clear hn
 have HU:=Lib.hid (show(u-1).sign= -1 from Int.sign_eq_neg_one_of_neg (by omega))
 clear hu
 have HF0:=Lib.hid (show Fr [(w.heap.size,0,(.bool false)),(w.heap.size,1,(.slice none 0 0)),(w.heap.size,2,(.bool false)),(w.heap.size,3,(.slice none 0 0))] (w.heap.size+1) (w.alloc (.cells #[.bool false,.slice none 0 0,.bool false,.slice none 0 0] 52))from frq)
 go_enter Tryz.func62,Tryz.ntmps62
 go_wp2_with fail
 refine(c_Cut_yes (strW z) (strW u) _ HN.out (by have:=HL.out;omega)).mono ?_
 rintro e w1 ⟨rfl,hb1⟩
 have HF1:=fgo w1 HF0
 have hz1:=HF1.out.1
 have hl1_0:=lt1 hz1
 obtain⟨_,_,_,_,-⟩:=HF1.out.alls 0 4
 obtain⟨_,_,_,_,-⟩:=HF1.out.falls 0 4
 go_wp2_with fail
 refine(c_Parse_yes (P:=Gp P w.heap.size 1) z (by have:=HL.out;simp at this;omega) (gap_fresh HP.out blq arq)).mono ?_
 rintro e w2 ⟨x1,rfl,hx1,hb2⟩
 have HX1:=Lib.hid hx1;clear hx1
 have HF2:=fgo w2 HF1
 have hz2:=HF2.out.1
 have hl2_0:=lt1 hz2
 obtain⟨_,_,_,_,-⟩:=HF2.out.alls 0 4
 obtain⟨_,_,_,_,-⟩:=HF2.out.falls 0 4
 have HFb2:=Lib.hid (HF2.out.new1 (.bool x1.b) (.slice x1.A x1.n x1.c) 50)
 go_wp2_with fail
 refine(c_Parse_yes (P:=Gp P w.heap.size 1) u (by have:=HL.out;simp at this;omega) (gap_fresh HP.out blq arq)).mono ?_
 rintro e w3 ⟨x2,rfl,hx2,hb3⟩
 have HX2:=Lib.hid hx2;clear hx2
 have HF3:=fgo w3 HFb2
 have hz3:=HF3.out.1
 have hl3_0:w.heap.size<w3.heap.size:=(by omega)
 have hx3_0:w2.heap.size<w3.heap.size:=(by omega)
 obtain⟨_,_,_,_,_,_,-⟩:=HF3.out.alls 0 6
 obtain⟨_,_,_,_,-⟩:=HF3.out.falls 2 4
 have HFb3:=Lib.hid (HF3.out.new1 (.bool x2.b) (.slice x2.A x2.n x2.c) 50)
 go_wp2_with fail
 go_region_held3 (fun W=>W.cell? ⟨w3.heap.size,0,none⟩=some (.bool x2.b)∧W.cell? ⟨w3.heap.size,1,none⟩=some (.slice x2.A x2.n x2.c)∧W.cell? ⟨w2.heap.size,0,none⟩=some (.bool x1.b)∧W.cell? ⟨w2.heap.size,1,none⟩=some (.slice x1.A x1.n x1.c))
  (exact⟨(by(repeat (with_reducible refine cell_far ?_ arq));exact(HFb3.out.go blq).get 0 rfl),(by(repeat (with_reducible refine cell_far ?_ arq));exact(HFb3.out.go blq).get 1 rfl),(by(repeat (with_reducible refine cell_far ?_ arq));exact(HFb3.out.go blq).get 2 rfl),(by(repeat (with_reducible refine cell_far ?_ arq));exact(HFb3.out.go blq).get 3 rfl)⟩)
  (first
   | (go_at_call 59;go_must (with_reducible refine(c_Of (P:=Gp P w.heap.size 1) 1 (by omega) (by omega) (gap_fresh HP.out blq arq)).mono ?_);rintro e w4 ⟨x3,rfl,hx3,hb4⟩;have HX3:=Lib.hid hx3;clear hx3;have HF4:=fgo w4 HFb3;have hz4:=HF4.out.1;have hl4_0:w.heap.size<w4.heap.size:=(by omega);have hx4_0:w2.heap.size<w4.heap.size:=(by omega);have hx4_1:w3.heap.size<w4.heap.size:=(by omega);obtain⟨_,_,_,_,-⟩:=HF4.out.alls 4 4;obtain⟨_,_,_,_,-⟩:=HF4.out.falls 4 4)
   | (go_at_call 104;go_must (with_reducible refine(c_Cmp' (P:=Gp P w.heap.size 1) (HX2.out.below blq) ((HX3.out.wide (by omega)).below blq) (by omega) (gap_fresh HP.out blq arq) HU.out).mono ?_);rintro e w5 ⟨rfl,hb5⟩;have HF5:=fgo w5 HFb3;have hz5:=HF5.out.1;have hl5_0:w.heap.size<w5.heap.size:=(by omega);have hx5_0:w2.heap.size<w5.heap.size:=(by omega);have hx5_1:w3.heap.size<w5.heap.size:=(by omega);obtain⟨q5_4,q5_5,q5_6,q5_7,-⟩:=HF5.out.alls 4 4;obtain⟨_,_,_,_,-⟩:=HF5.out.falls 4 4))
 go_wp2_with fail
 refine bodyPost_ret (v:=.tuple #[.agg #[.bool false,.slice none 0 0,.bool false,.slice none 0 0],.bool false]) (by simp [results,Tryz.results62,go_sem,q5_4,q5_5,q5_6,q5_7,hl5_0,Nat.ne_of_lt hl5_0,Nat.ne_of_gt hl5_0]) rfl ⟨rfl,blq⟩
theorem p_syz(z u:Int)(hl:(strW z++47 :: strW u).length≤140737488351232)(hn:(47:UInt8)∉strW z)(hu:u=1)(hP:∀k,w.heap.size≤k→P k) :
 Calls Tryz.prog 62 #[Sg (strW z++47 :: strW u)] w fun e w'=>e=.returned (.tuple #[.agg #[.bool false,.slice none 0 0,.bool false,.slice none 0 0],.bool false])∧Below w.heap.size w w':=by
 have HP:=Lib.hid hP
 clear hP
 have HL:=Lib.hid hl
 clear hl
 have HN:=Lib.hid hn
 clear hn
 have HU:=Lib.hid (show(u-1).sign=0 from(by rw [hu];rfl))
 clear hu
 have HF0:=Lib.hid (show Fr [(w.heap.size,0,(.bool false)),(w.heap.size,1,(.slice none 0 0)),(w.heap.size,2,(.bool false)),(w.heap.size,3,(.slice none 0 0))] (w.heap.size+1) (w.alloc (.cells #[.bool false,.slice none 0 0,.bool false,.slice none 0 0] 52))from frq)
 go_enter Tryz.func62,Tryz.ntmps62
 go_wp2_with fail
 refine(c_Cut_yes (strW z) (strW u) _ HN.out (by have:=HL.out;omega)).mono ?_
 rintro e w1 ⟨rfl,hb1⟩
 have HF1:=fgo w1 HF0
 have hz1:=HF1.out.1
 have hl1_0:=lt1 hz1
 obtain⟨_,_,_,_,-⟩:=HF1.out.alls 0 4
 obtain⟨_,_,_,_,-⟩:=HF1.out.falls 0 4
 go_wp2_with fail
 refine(c_Parse_yes (P:=Gp P w.heap.size 1) z (by have:=HL.out;simp at this;omega) (gap_fresh HP.out blq arq)).mono ?_
 rintro e w2 ⟨x1,rfl,hx1,hb2⟩
 have HX1:=Lib.hid hx1;clear hx1
 have HF2:=fgo w2 HF1
 have hz2:=HF2.out.1
 have hl2_0:=lt1 hz2
 obtain⟨_,_,_,_,-⟩:=HF2.out.alls 0 4
 obtain⟨_,_,_,_,-⟩:=HF2.out.falls 0 4
 have HFb2:=Lib.hid (HF2.out.new1 (.bool x1.b) (.slice x1.A x1.n x1.c) 50)
 go_wp2_with fail
 refine(c_Parse_yes (P:=Gp P w.heap.size 1) u (by have:=HL.out;simp at this;omega) (gap_fresh HP.out blq arq)).mono ?_
 rintro e w3 ⟨x2,rfl,hx2,hb3⟩
 have HX2:=Lib.hid hx2;clear hx2
 have HF3:=fgo w3 HFb2
 have hz3:=HF3.out.1
 have hl3_0:w.heap.size<w3.heap.size:=(by omega)
 have hx3_0:w2.heap.size<w3.heap.size:=(by omega)
 obtain⟨_,_,_,_,_,_,-⟩:=HF3.out.alls 0 6
 obtain⟨_,_,_,_,-⟩:=HF3.out.falls 2 4
 have HFb3:=Lib.hid (HF3.out.new1 (.bool x2.b) (.slice x2.A x2.n x2.c) 50)
 go_wp2_with fail
 go_region_held3 (fun W=>W.cell? ⟨w3.heap.size,0,none⟩=some (.bool x2.b)∧W.cell? ⟨w3.heap.size,1,none⟩=some (.slice x2.A x2.n x2.c)∧W.cell? ⟨w2.heap.size,0,none⟩=some (.bool x1.b)∧W.cell? ⟨w2.heap.size,1,none⟩=some (.slice x1.A x1.n x1.c))
  (exact⟨(by(repeat (with_reducible refine cell_far ?_ arq));exact(HFb3.out.go blq).get 0 rfl),(by(repeat (with_reducible refine cell_far ?_ arq));exact(HFb3.out.go blq).get 1 rfl),(by(repeat (with_reducible refine cell_far ?_ arq));exact(HFb3.out.go blq).get 2 rfl),(by(repeat (with_reducible refine cell_far ?_ arq));exact(HFb3.out.go blq).get 3 rfl)⟩)
  (first
   | (go_at_call 59;go_must (with_reducible refine(c_Of (P:=Gp P w.heap.size 1) 1 (by omega) (by omega) (gap_fresh HP.out blq arq)).mono ?_);rintro e w4 ⟨x3,rfl,hx3,hb4⟩;have HX3:=Lib.hid hx3;clear hx3;have HF4:=fgo w4 HFb3;have hz4:=HF4.out.1;have hl4_0:w.heap.size<w4.heap.size:=(by omega);have hx4_0:w2.heap.size<w4.heap.size:=(by omega);have hx4_1:w3.heap.size<w4.heap.size:=(by omega);obtain⟨_,_,_,_,-⟩:=HF4.out.alls 4 4;obtain⟨_,_,_,_,-⟩:=HF4.out.falls 4 4)
   | (go_at_call 104;go_must (with_reducible refine(c_Cmp' (P:=Gp P w.heap.size 1) (HX2.out.below blq) ((HX3.out.wide (by omega)).below blq) (by omega) (gap_fresh HP.out blq arq) HU.out).mono ?_);rintro e w5 ⟨rfl,hb5⟩;have HF5:=fgo w5 HFb3;have hz5:=HF5.out.1;have hl5_0:w.heap.size<w5.heap.size:=(by omega);have hx5_0:w2.heap.size<w5.heap.size:=(by omega);have hx5_1:w3.heap.size<w5.heap.size:=(by omega);obtain⟨q5_4,q5_5,q5_6,q5_7,-⟩:=HF5.out.alls 4 4;obtain⟨_,_,_,_,-⟩:=HF5.out.falls 4 4))
 go_wp2_with fail
 refine bodyPost_ret (v:=.tuple #[.agg #[.bool false,.slice none 0 0,.bool false,.slice none 0 0],.bool false]) (by simp [results,Tryz.results62,go_sem,q5_4,q5_5,q5_6,q5_7,hl5_0,Nat.ne_of_lt hl5_0,Nat.ne_of_gt hl5_0]) rfl ⟨rfl,blq⟩
theorem p_syys(z u:Int)(hl:(strW z++47 :: strW u).length≤140737488351232)(hn:(47:UInt8)∉strW z)(hu:1<u)(hs:decide ((dec z.natAbs).length≤300∧(dec u.natAbs).length≤300)=true)(ht1:z.natAbs<1000000000^34)(ht2:u.natAbs<1000000000^34)(hP:∀k,w.heap.size≤k→P k) :
 Calls Tryz.prog 62 #[Sg (strW z++47 :: strW u)] w fun e w'=>∃x:FV,e=.returned (.tuple #[.agg #[.bool x.num.b,.slice x.num.A x.num.n x.num.c,.bool x.den.b,.slice x.den.A x.den.n x.den.c],(.bool (decide ((Int.gcd z u:Int)=1)))])∧IsW P 15637498706000 w' x.num z∧IsW P 15637498706000 w' x.den u∧Below w.heap.size w w':=by
 have HP:=Lib.hid hP
 clear hP
 have HL:=Lib.hid hl
 clear hl
 have HN:=Lib.hid hn
 clear hn
 have HU:=Lib.hid (show(u-1).sign=1 from Int.sign_eq_one_of_pos (by omega))
 have HS:=Lib.hid hs
 have HT1:=Lib.hid ht1
 have HT2:=Lib.hid ht2
 clear hu hs ht1 ht2
 have HF0:=Lib.hid (show Fr [(w.heap.size,0,(.bool false)),(w.heap.size,1,(.slice none 0 0)),(w.heap.size,2,(.bool false)),(w.heap.size,3,(.slice none 0 0))] (w.heap.size+1) (w.alloc (.cells #[.bool false,.slice none 0 0,.bool false,.slice none 0 0] 52))from frq)
 go_enter Tryz.func62,Tryz.ntmps62
 go_wp2_with fail
 refine(c_Cut_yes (strW z) (strW u) _ HN.out (by have:=HL.out;omega)).mono ?_
 rintro e w1 ⟨rfl,hb1⟩
 have HF1:=fgo w1 HF0
 have hz1:=HF1.out.1
 have hl1_0:=lt1 hz1
 obtain⟨_,_,_,_,-⟩:=HF1.out.alls 0 4
 obtain⟨_,_,_,_,-⟩:=HF1.out.falls 0 4
 go_wp2_with fail
 refine(c_Parse_yes (P:=Gp P w.heap.size 1) z (by have:=HL.out;simp at this;omega) (gap_fresh HP.out blq arq)).mono ?_
 rintro e w2 ⟨x1,rfl,hx1,hb2⟩
 have HX1:=Lib.hid hx1;clear hx1
 have HF2:=fgo w2 HF1
 have hz2:=HF2.out.1
 have hl2_0:=lt1 hz2
 obtain⟨_,_,_,_,-⟩:=HF2.out.alls 0 4
 obtain⟨_,_,_,_,-⟩:=HF2.out.falls 0 4
 have HFb2:=Lib.hid (HF2.out.new1 (.bool x1.b) (.slice x1.A x1.n x1.c) 50)
 go_wp2_with fail
 refine(c_Parse_yes (P:=Gp P w.heap.size 1) u (by have:=HL.out;simp at this;omega) (gap_fresh HP.out blq arq)).mono ?_
 rintro e w3 ⟨x2,rfl,hx2,hb3⟩
 have HX2:=Lib.hid hx2;clear hx2
 have HF3:=fgo w3 HFb2
 have hz3:=HF3.out.1
 have hl3_0:w.heap.size<w3.heap.size:=(by omega)
 have hx3_0:w2.heap.size<w3.heap.size:=(by omega)
 obtain⟨_,_,_,_,_,_,-⟩:=HF3.out.alls 0 6
 obtain⟨_,_,_,_,-⟩:=HF3.out.falls 2 4
 have HFb3:=Lib.hid (HF3.out.new1 (.bool x2.b) (.slice x2.A x2.n x2.c) 50)
 go_wp2_with fail
 go_region_held3 (fun W=>W.cell? ⟨w3.heap.size,0,none⟩=some (.bool x2.b)∧W.cell? ⟨w3.heap.size,1,none⟩=some (.slice x2.A x2.n x2.c)∧W.cell? ⟨w2.heap.size,0,none⟩=some (.bool x1.b)∧W.cell? ⟨w2.heap.size,1,none⟩=some (.slice x1.A x1.n x1.c))
  (exact⟨(by(repeat (with_reducible refine cell_far ?_ arq));exact(HFb3.out.go blq).get 0 rfl),(by(repeat (with_reducible refine cell_far ?_ arq));exact(HFb3.out.go blq).get 1 rfl),(by(repeat (with_reducible refine cell_far ?_ arq));exact(HFb3.out.go blq).get 2 rfl),(by(repeat (with_reducible refine cell_far ?_ arq));exact(HFb3.out.go blq).get 3 rfl)⟩)
  (first
   | (go_at_call 59;go_must (with_reducible refine(c_Of (P:=Gp P w.heap.size 1) 1 (by omega) (by omega) (gap_fresh HP.out blq arq)).mono ?_);rintro e w4 ⟨x3,rfl,hx3,hb4⟩;have HX3:=Lib.hid hx3;clear hx3;have HF4:=fgo w4 HFb3;have hz4:=HF4.out.1;have hl4_0:w.heap.size<w4.heap.size:=(by omega);have hx4_0:w2.heap.size<w4.heap.size:=(by omega);have hx4_1:w3.heap.size<w4.heap.size:=(by omega);obtain⟨_,_,_,_,_,_,_,_,-⟩:=HF4.out.alls 0 8;obtain⟨_,_,_,_,-⟩:=HF4.out.falls 4 4)
   | (go_at_call 104;go_must (with_reducible refine(c_Cmp' (P:=Gp P w.heap.size 1) (HX2.out.below blq) ((HX3.out.wide (by omega)).below blq) (by omega) (gap_fresh HP.out blq arq) HU.out).mono ?_);rintro e w5 ⟨rfl,hb5⟩;have HF5:=fgo w5 HFb3;have hz5:=HF5.out.1;have hl5_0:w.heap.size<w5.heap.size:=(by omega);have hx5_0:w2.heap.size<w5.heap.size:=(by omega);have hx5_1:w3.heap.size<w5.heap.size:=(by omega);obtain⟨_,_,_,_,_,_,_,_,-⟩:=HF5.out.alls 0 8;obtain⟨_,_,_,_,-⟩:=HF5.out.falls 4 4))
 go_wp2_with fail
 have HFb5:=Lib.hid (HF5.out.new4 (.bool x1.b) (.slice x1.A x1.n x1.c) (.bool x2.b) (.slice x2.A x2.n x2.c) 52)
 go_wp2_with fail
 go_region_held3 (fun W=>W.cell? ⟨w5.heap.size,0,none⟩=some (.bool x1.b)∧W.cell? ⟨w5.heap.size,1,none⟩=some (.slice x1.A x1.n x1.c)∧W.cell? ⟨w5.heap.size,2,none⟩=some (.bool x2.b)∧W.cell? ⟨w5.heap.size,3,none⟩=some (.slice x2.A x2.n x2.c)∧W.cell? ⟨w3.heap.size,0,none⟩=some (.bool x2.b)∧W.cell? ⟨w3.heap.size,1,none⟩=some (.slice x2.A x2.n x2.c)∧W.cell? ⟨w2.heap.size,0,none⟩=some (.bool x1.b)∧W.cell? ⟨w2.heap.size,1,none⟩=some (.slice x1.A x1.n x1.c))
  (exact⟨(by(repeat (with_reducible refine cell_far ?_ arq));exact(HFb5.out.go blq).get 0 rfl),(by(repeat (with_reducible refine cell_far ?_ arq));exact(HFb5.out.go blq).get 1 rfl),(by(repeat (with_reducible refine cell_far ?_ arq));exact(HFb5.out.go blq).get 2 rfl),(by(repeat (with_reducible refine cell_far ?_ arq));exact(HFb5.out.go blq).get 3 rfl),(by(repeat (with_reducible refine cell_far ?_ arq));exact(HFb5.out.go blq).get 4 rfl),(by(repeat (with_reducible refine cell_far ?_ arq));exact(HFb5.out.go blq).get 5 rfl),(by(repeat (with_reducible refine cell_far ?_ arq));exact(HFb5.out.go blq).get 6 rfl),(by(repeat (with_reducible refine cell_far ?_ arq));exact(HFb5.out.go blq).get 7 rfl)⟩)
  (first
   | (go_at_call 91;go_must (with_reducible refine(c_FShort2' (x:=⟨x1,x2⟩) (HX1.out.below blq) (HX2.out.below blq) (Nat.le_refl _) HS.out).mono ?_);rintro e w6 ⟨rfl,hb6⟩;have HF6:=fgo w6 HFb5;have hz6:=HF6.out.1;have hl6_0:w.heap.size<w6.heap.size:=(by omega);have hx6_0:w2.heap.size<w6.heap.size:=(by omega);have hx6_1:w3.heap.size<w6.heap.size:=(by omega);have hx6_2:w5.heap.size<w6.heap.size:=(by omega);obtain⟨_,_,_,_,-⟩:=HF6.out.alls 8 4;obtain⟨_,_,_,_,-⟩:=HF6.out.falls 8 4)
   | (go_at_call 81;go_must (with_reducible refine(c_Gcd (P:=Gp P w.heap.size 1) ((HX1.out.tight HT1.out).below blq) ((HX2.out.tight HT2.out).below blq) (show 34≤10000000000 by omega) (gap_fresh HP.out blq arq)).mono ?_);rintro e w7 ⟨x4,rfl,hx4,hb7⟩;have HX4:=Lib.hid hx4;clear hx4;have HF7:=fgo w7 HFb5;have hz7:=HF7.out.1;have hl7_0:w.heap.size<w7.heap.size:=(by omega);have hx7_0:w2.heap.size<w7.heap.size:=(by omega);have hx7_1:w3.heap.size<w7.heap.size:=(by omega);have hx7_2:w5.heap.size<w7.heap.size:=(by omega);obtain⟨_,_,_,_,-⟩:=HF7.out.alls 8 4;obtain⟨_,_,_,_,-⟩:=HF7.out.falls 8 4)
   | (go_at_call 99;go_must (with_reducible refine(c_One (HX4.out.below blq)).mono ?_);rintro e w8 ⟨rfl,hb8⟩;have HF8:=fgo w8 HFb5;have hz8:=HF8.out.1;have hl8_0:w.heap.size<w8.heap.size:=(by omega);have hx8_0:w2.heap.size<w8.heap.size:=(by omega);have hx8_1:w3.heap.size<w8.heap.size:=(by omega);have hx8_2:w5.heap.size<w8.heap.size:=(by omega);obtain⟨q8_8,q8_9,q8_10,q8_11,-⟩:=HF8.out.alls 8 4;obtain⟨_,_,_,_,-⟩:=HF8.out.falls 8 4))
 go_wp2_with fail
 refine bodyPost_ret (v:=.tuple #[.agg #[.bool (FV.mk x1 x2).num.b,.slice (FV.mk x1 x2).num.A (FV.mk x1 x2).num.n (FV.mk x1 x2).num.c,.bool (FV.mk x1 x2).den.b,.slice (FV.mk x1 x2).den.A (FV.mk x1 x2).den.n (FV.mk x1 x2).den.c],(.bool (decide ((Int.gcd z u:Int)=1)))]) (by simp [results,Tryz.results62,go_sem,q8_8,q8_9,q8_10,q8_11,hl8_0,Nat.ne_of_lt hl8_0,Nat.ne_of_gt hl8_0]) rfl ⟨⟨x1,x2⟩,rfl,?_,?_,blq⟩
 · exact IsW.ungap (s:=w.heap.size) (n:=1) ((((((HX1.out.below blq).put _ arq arq).put _ arq arq).put _ arq arq).put _ arq arq))
 · exact IsW.ungap (s:=w.heap.size) (n:=1) ((((((HX2.out.below blq).put _ arq arq).put _ arq arq).put _ arq arq).put _ arq arq))
theorem p_syyl(z u:Int)(hl:(strW z++47 :: strW u).length≤140737488351232)(hn:(47:UInt8)∉strW z)(hu:1<u)(hs:decide ((dec z.natAbs).length≤300∧(dec u.natAbs).length≤300)=false)(hP:∀k,w.heap.size≤k→P k) :
 Calls Tryz.prog 62 #[Sg (strW z++47 :: strW u)] w fun e w'=>∃x:FV,e=.returned (.tuple #[.agg #[.bool x.num.b,.slice x.num.A x.num.n x.num.c,.bool x.den.b,.slice x.den.A x.den.n x.den.c],(.bool false)])∧IsW P 15637498706000 w' x.num z∧IsW P 15637498706000 w' x.den u∧Below w.heap.size w w':=by
 have HP:=Lib.hid hP
 clear hP
 have HL:=Lib.hid hl
 clear hl
 have HN:=Lib.hid hn
 clear hn
 have HU:=Lib.hid (show(u-1).sign=1 from Int.sign_eq_one_of_pos (by omega))
 have HS:=Lib.hid hs
 clear hu hs
 have HF0:=Lib.hid (show Fr [(w.heap.size,0,(.bool false)),(w.heap.size,1,(.slice none 0 0)),(w.heap.size,2,(.bool false)),(w.heap.size,3,(.slice none 0 0))] (w.heap.size+1) (w.alloc (.cells #[.bool false,.slice none 0 0,.bool false,.slice none 0 0] 52))from frq)
 go_enter Tryz.func62,Tryz.ntmps62
 go_wp2_with fail
 refine(c_Cut_yes (strW z) (strW u) _ HN.out (by have:=HL.out;omega)).mono ?_
 rintro e w1 ⟨rfl,hb1⟩
 have HF1:=fgo w1 HF0
 have hz1:=HF1.out.1
 have hl1_0:=lt1 hz1
 obtain⟨_,_,_,_,-⟩:=HF1.out.alls 0 4
 obtain⟨_,_,_,_,-⟩:=HF1.out.falls 0 4
 go_wp2_with fail
 refine(c_Parse_yes (P:=Gp P w.heap.size 1) z (by have:=HL.out;simp at this;omega) (gap_fresh HP.out blq arq)).mono ?_
 rintro e w2 ⟨x1,rfl,hx1,hb2⟩
 have HX1:=Lib.hid hx1;clear hx1
 have HF2:=fgo w2 HF1
 have hz2:=HF2.out.1
 have hl2_0:=lt1 hz2
 obtain⟨_,_,_,_,-⟩:=HF2.out.alls 0 4
 obtain⟨_,_,_,_,-⟩:=HF2.out.falls 0 4
 have HFb2:=Lib.hid (HF2.out.new1 (.bool x1.b) (.slice x1.A x1.n x1.c) 50)
 go_wp2_with fail
 refine(c_Parse_yes (P:=Gp P w.heap.size 1) u (by have:=HL.out;simp at this;omega) (gap_fresh HP.out blq arq)).mono ?_
 rintro e w3 ⟨x2,rfl,hx2,hb3⟩
 have HX2:=Lib.hid hx2;clear hx2
 have HF3:=fgo w3 HFb2
 have hz3:=HF3.out.1
 have hl3_0:w.heap.size<w3.heap.size:=(by omega)
 have hx3_0:w2.heap.size<w3.heap.size:=(by omega)
 obtain⟨_,_,_,_,_,_,-⟩:=HF3.out.alls 0 6
 obtain⟨_,_,_,_,-⟩:=HF3.out.falls 2 4
 have HFb3:=Lib.hid (HF3.out.new1 (.bool x2.b) (.slice x2.A x2.n x2.c) 50)
 go_wp2_with fail
 go_region_held3 (fun W=>W.cell? ⟨w3.heap.size,0,none⟩=some (.bool x2.b)∧W.cell? ⟨w3.heap.size,1,none⟩=some (.slice x2.A x2.n x2.c)∧W.cell? ⟨w2.heap.size,0,none⟩=some (.bool x1.b)∧W.cell? ⟨w2.heap.size,1,none⟩=some (.slice x1.A x1.n x1.c))
  (exact⟨(by(repeat (with_reducible refine cell_far ?_ arq));exact(HFb3.out.go blq).get 0 rfl),(by(repeat (with_reducible refine cell_far ?_ arq));exact(HFb3.out.go blq).get 1 rfl),(by(repeat (with_reducible refine cell_far ?_ arq));exact(HFb3.out.go blq).get 2 rfl),(by(repeat (with_reducible refine cell_far ?_ arq));exact(HFb3.out.go blq).get 3 rfl)⟩)
  (first
   | (go_at_call 59;go_must (with_reducible refine(c_Of (P:=Gp P w.heap.size 1) 1 (by omega) (by omega) (gap_fresh HP.out blq arq)).mono ?_);rintro e w4 ⟨x3,rfl,hx3,hb4⟩;have HX3:=Lib.hid hx3;clear hx3;have HF4:=fgo w4 HFb3;have hz4:=HF4.out.1;have hl4_0:w.heap.size<w4.heap.size:=(by omega);have hx4_0:w2.heap.size<w4.heap.size:=(by omega);have hx4_1:w3.heap.size<w4.heap.size:=(by omega);obtain⟨_,_,_,_,_,_,_,_,-⟩:=HF4.out.alls 0 8;obtain⟨_,_,_,_,-⟩:=HF4.out.falls 4 4)
   | (go_at_call 104;go_must (with_reducible refine(c_Cmp' (P:=Gp P w.heap.size 1) (HX2.out.below blq) ((HX3.out.wide (by omega)).below blq) (by omega) (gap_fresh HP.out blq arq) HU.out).mono ?_);rintro e w5 ⟨rfl,hb5⟩;have HF5:=fgo w5 HFb3;have hz5:=HF5.out.1;have hl5_0:w.heap.size<w5.heap.size:=(by omega);have hx5_0:w2.heap.size<w5.heap.size:=(by omega);have hx5_1:w3.heap.size<w5.heap.size:=(by omega);obtain⟨_,_,_,_,_,_,_,_,-⟩:=HF5.out.alls 0 8;obtain⟨_,_,_,_,-⟩:=HF5.out.falls 4 4))
 go_wp2_with fail
 have HFb5:=Lib.hid (HF5.out.new4 (.bool x1.b) (.slice x1.A x1.n x1.c) (.bool x2.b) (.slice x2.A x2.n x2.c) 52)
 go_wp2_with fail
 refine wp_region_held_drew (S:=fun W=>W.cell? ⟨w5.heap.size,0,none⟩=some (.bool x1.b)∧W.cell? ⟨w5.heap.size,1,none⟩=some (.slice x1.A x1.n x1.c)∧W.cell? ⟨w5.heap.size,2,none⟩=some (.bool x2.b)∧W.cell? ⟨w5.heap.size,3,none⟩=some (.slice x2.A x2.n x2.c)) (by kernel_rfl) ?_ (fun hHeld=>?_)
 focus ((try dsimp only);exact⟨(by(repeat (with_reducible refine cell_far ?_ arq));exact(HFb5.out.go blq).get 0 rfl),(by(repeat (with_reducible refine cell_far ?_ arq));exact(HFb5.out.go blq).get 1 rfl),(by(repeat (with_reducible refine cell_far ?_ arq));exact(HFb5.out.go blq).get 2 rfl),(by(repeat (with_reducible refine cell_far ?_ arq));exact(HFb5.out.go blq).get 3 rfl)⟩)
 refine wpAnyH_take (i:=0) (v:=?_) rfl (by kernel_rfl) (by kernel_rfl) (by kernel_rfl) (fun _ _ _ h=>h) (Or.inl ⟨by rfl,?_⟩) (by assumption) ?_;rotate_left;focus (intro w hSw;(try dsimp only at hSw);go_simp;try with_reducible rfl);(try simp only [Act.put,List.getElem_toArray,List.getElem_cons_zero,List.getElem_cons_succ,List.setIfInBounds_toArray,List.set_cons_zero,List.set_cons_succ])
 refine wpAnyH_take (i:=1) (v:=?_) rfl (by kernel_rfl) (by kernel_rfl) (by kernel_rfl) (fun _ _ _ h=>h) (Or.inl ⟨by rfl,?_⟩) (by assumption) ?_;rotate_left;focus (intro w hSw;(try dsimp only at hSw);go_simp;try with_reducible rfl);(try simp only [Act.put,List.getElem_toArray,List.getElem_cons_zero,List.getElem_cons_succ,List.setIfInBounds_toArray,List.set_cons_zero,List.set_cons_succ])
 refine wpAnyH_ready (rs:=[2]) (by kernel_rfl) (by simp) ?_
 refine AllReadyH.cons (o:=_) rfl (fun K hK=>?_) AllReadyH.nil
 refine nv ?_
 go_simp
 go_must (with_reducible refine(c_FShort2' (x:=⟨x1,x2⟩) (HX1.out.below blq) (HX2.out.below blq) (Nat.le_refl _) HS.out).mono ?_)
 rintro e w6 ⟨rfl,hb6⟩
 have HF6:=fgo w6 HFb5
 have hz6:=HF6.out.1
 have hl6_0:w.heap.size<w6.heap.size:=(by omega)
 have hx6_0:w2.heap.size<w6.heap.size:=(by omega)
 have hx6_1:w3.heap.size<w6.heap.size:=(by omega)
 have hx6_2:w5.heap.size<w6.heap.size:=(by omega)
 obtain⟨q6_8,q6_9,q6_10,q6_11,-⟩:=HF6.out.alls 8 4
 obtain⟨_,_,_,_,-⟩:=HF6.out.falls 8 4
 go_wp2_with fail
 refine hK.out _ _ ?_ (fun hHeld=>?_)
 focus ((try dsimp only);exact⟨(by(repeat (with_reducible refine cell_far ?_ arq));exact(HFb5.out.go blq).get 0 rfl),(by(repeat (with_reducible refine cell_far ?_ arq));exact(HFb5.out.go blq).get 1 rfl),(by(repeat (with_reducible refine cell_far ?_ arq));exact(HFb5.out.go blq).get 2 rfl),(by(repeat (with_reducible refine cell_far ?_ arq));exact(HFb5.out.go blq).get 3 rfl)⟩)
 clear hK K
 refine nw ?_
 refine wpAnyH_take (i:=3) (v:=?_) rfl (by kernel_rfl) (by kernel_rfl) (by kernel_rfl) (fun _ _ _ h=>h) (Or.inl ⟨by rfl,?_⟩) (by assumption) ?_;rotate_left;focus (intro w hSw;(try dsimp only at hSw);go_simp;try with_reducible rfl);(try simp only [Act.put,List.getElem_toArray,List.getElem_cons_zero,List.getElem_cons_succ,List.setIfInBounds_toArray,List.set_cons_zero,List.set_cons_succ])
 refine wpAnyH_take (i:=4) (v:=undef) rfl (by kernel_rfl) (by kernel_rfl) (by kernel_rfl) (fun _ _ _ h=>h) (Or.inr ⟨by rfl,rfl⟩) (by assumption) ?_;(try simp only [Act.put,List.getElem_toArray,List.getElem_cons_zero,List.getElem_cons_succ,List.setIfInBounds_toArray,List.set_cons_zero,List.set_cons_succ])
 refine wpAnyH_take (i:=5) (v:=undef) rfl (by kernel_rfl) (by kernel_rfl) (by kernel_rfl) (fun _ _ _ h=>h) (Or.inr ⟨by rfl,rfl⟩) (by assumption) ?_;(try simp only [Act.put,List.getElem_toArray,List.getElem_cons_zero,List.getElem_cons_succ,List.setIfInBounds_toArray,List.set_cons_zero,List.set_cons_succ])
 refine wpAnyH_take (i:=6) (v:=undef) rfl (by kernel_rfl) (by kernel_rfl) (by kernel_rfl) (fun _ _ _ h=>h) (Or.inr ⟨by rfl,rfl⟩) (by assumption) ?_;(try simp only [Act.put,List.getElem_toArray,List.getElem_cons_zero,List.getElem_cons_succ,List.setIfInBounds_toArray,List.set_cons_zero,List.set_cons_succ])
 refine wpAnyH_take (i:=7) (v:=undef) rfl (by kernel_rfl) (by kernel_rfl) (by kernel_rfl) (fun _ _ _ h=>h) (Or.inr ⟨by rfl,rfl⟩) (by assumption) ?_;(try simp only [Act.put,List.getElem_toArray,List.getElem_cons_zero,List.getElem_cons_succ,List.setIfInBounds_toArray,List.set_cons_zero,List.set_cons_succ])
 refine wpAnyH_take (i:=8) (v:=?_) rfl (by kernel_rfl) (by kernel_rfl) (by kernel_rfl) (fun _ _ _ h=>h) (Or.inl ⟨by rfl,?_⟩) (by assumption) ?_;rotate_left;focus (intro w hSw;(try dsimp only at hSw);go_simp;try with_reducible rfl);(try simp only [Act.put,List.getElem_toArray,List.getElem_cons_zero,List.getElem_cons_succ,List.setIfInBounds_toArray,List.set_cons_zero,List.set_cons_succ])
 refine wpAnyH_ready (rs:=[9]) (by kernel_rfl) (by simp) ?_
 refine AllReadyH.cons (o:=_) rfl (fun K hK=>?_) AllReadyH.nil
 refine nv ?_
 go_simp
 refine hK.out _ _ ?_ (fun hHeld=>?_)
 focus ((try dsimp only);exact⟨(by(repeat (with_reducible refine cell_far ?_ arq));exact(HFb5.out.go blq).get 0 rfl),(by(repeat (with_reducible refine cell_far ?_ arq));exact(HFb5.out.go blq).get 1 rfl),(by(repeat (with_reducible refine cell_far ?_ arq));exact(HFb5.out.go blq).get 2 rfl),(by(repeat (with_reducible refine cell_far ?_ arq));exact(HFb5.out.go blq).get 3 rfl)⟩)
 clear hK K
 refine nw ?_
 refine wpAnyH_ready (rs:=[10]) (by kernel_rfl) (by simp) ?_
 refine AllReadyH.cons (o:=_) rfl (fun K hK=>?_) AllReadyH.nil
 refine nv ?_
 go_simp
 refine hK.out _ _ ?_ (fun hHeld=>?_)
 focus ((try dsimp only);exact⟨(by(repeat (with_reducible refine cell_far ?_ arq));exact(HFb5.out.go blq).get 0 rfl),(by(repeat (with_reducible refine cell_far ?_ arq));exact(HFb5.out.go blq).get 1 rfl),(by(repeat (with_reducible refine cell_far ?_ arq));exact(HFb5.out.go blq).get 2 rfl),(by(repeat (with_reducible refine cell_far ?_ arq));exact(HFb5.out.go blq).get 3 rfl)⟩)
 clear hK K
 refine nw ?_
 refine wpAnyH_done (by kernel_rfl) ?_ _
 go_wp2_with fail
 refine bodyPost_ret (v:=.tuple #[.agg #[.bool (FV.mk x1 x2).num.b,.slice (FV.mk x1 x2).num.A (FV.mk x1 x2).num.n (FV.mk x1 x2).num.c,.bool (FV.mk x1 x2).den.b,.slice (FV.mk x1 x2).den.A (FV.mk x1 x2).den.n (FV.mk x1 x2).den.c],(.bool false)]) (by simp [results,Tryz.results62,go_sem,q6_8,q6_9,q6_10,q6_11,hl6_0,Nat.ne_of_lt hl6_0,Nat.ne_of_gt hl6_0]) rfl ⟨⟨x1,x2⟩,rfl,?_,?_,blq⟩
 · exact IsW.ungap (s:=w.heap.size) (n:=1) ((((((HX1.out.below blq).put _ arq arq).put _ arq arq).put _ arq arq).put _ arq arq))
 · exact IsW.ungap (s:=w.heap.size) (n:=1) ((((((HX2.out.below blq).put _ arq arq).put _ arq arq).put _ arq arq).put _ arq arq))
theorem c_FParse(l:List UInt8)(hl:l.length≤140737488351232)(hP:∀k,w.heap.size≤k→P k) :
 Calls Tryz.prog 62 #[Sg l] w fun e w'=>((∃(q:Rat) (x:FV),l=strF q∧Short q∧e=.returned (.tuple #[.agg #[.bool x.num.b,.slice x.num.A x.num.n x.num.c,.bool x.den.b,.slice x.den.A x.den.n x.den.c],.bool true])∧IsF P 34 w' x q) ∨
  ((∀q,l=strF q→¬Short q)∧∃x:FV,e=.returned (.tuple #[.agg #[.bool x.num.b,.slice x.num.A x.num.n x.num.c,.bool x.den.b,.slice x.den.A x.den.n x.den.c],.bool false])))∧Below w.heap.size w w':=by
 have none:(∀q,l=strF q→¬Short q)→∀(e:Ending) (w':World),(e=.returned (.tuple #[.agg #[.bool false,.slice none 0 0,.bool false,.slice none 0 0],.bool false])∧Below w.heap.size w w')→((∃(q:Rat) (x:FV),l=strF q∧Short q∧e=.returned (.tuple #[.agg #[.bool x.num.b,.slice x.num.A x.num.n x.num.c,.bool x.den.b,.slice x.den.A x.den.n x.den.c],.bool true])∧IsF P 34 w' x q) ∨
  ((∀q,l=strF q→¬Short q)∧∃x:FV,e=.returned (.tuple #[.agg #[.bool x.num.b,.slice x.num.A x.num.n x.num.c,.bool x.den.b,.slice x.den.A x.den.n x.den.c],.bool false])))∧Below w.heap.size w w' :=
  fun h e w' h'=>⟨.inr ⟨h,⟨⟨false,none,0,0⟩,⟨false,none,0,0⟩⟩,h'.1⟩,h'.2⟩
 by_cases hs:(47:UInt8)∈l
 · obtain⟨a,b,ha,rfl⟩:=mem_split _ hs;by_cases h1:∃z,a=strW z
   · obtain⟨z,rfl⟩:=h1;by_cases h2:∃u,b=strW u
     · obtain⟨u,rfl⟩:=h2;have hq:∀q:Rat,strW z++47 :: strW u=strF q→q.num=z∧(q.den:Int)=u∧1<u:=fun q h=>strF_two h
       rcases Int.lt_trichotomy u 1 with hu|hu|hu
       · exact(p_sym z u hl ha hu hP).mono (none (fun q h=>absurd (hq q h).2.2 (by omega)))
       · exact(p_syz z u hl ha hu hP).mono (none (fun q h=>absurd (hq q h).2.2 (by omega)))
       · by_cases h3:(dec z.natAbs).length≤300∧(dec u.natAbs).length≤300
         · have ht1:z.natAbs<1000000000^34:=short_lt h3.1;have ht2:u.natAbs<1000000000^34:=short_lt h3.2;refine(p_syys z u hl ha hu (decide_eq_true h3) ht1 ht2 hP).mono ?_;rintro e w' ⟨x,rfl,hx,hy,hb⟩;refine⟨?_,hb⟩;by_cases hg:Int.gcd z u=1
           · obtain⟨e1,e2⟩:=divInt_pos (z:=z) (u:=u) (by omega);rw [hg,Int.natCast_one,Int.ediv_one]at e1 e2;refine .inl ⟨Rat.divInt z u,x,?_,?_,?_,?_⟩
             · rw [strF,if_neg (by omega),e1,←strW_nat,e2]
             · unfold Short;rw [e1,show (Rat.divInt z u).den=u.natAbs by omega];exact h3
             · rw [decide_eq_true (show((Int.gcd z u:Nat):Int)=1 by omega)]
             · exact⟨by rw [e1];exact hx.tight ht1,by rw [e2];exact hy.tight ht2⟩
           · refine .inr ⟨fun q h=>?_,x,?_⟩
             · obtain⟨r1,r2,-⟩:=hq q h;exfalso
               apply hg
               rw [←r1,←r2];have:=q.reduced;rw [Nat.Coprime]at this;rw [Int.gcd];simpa using this
             · rw [decide_eq_false (show ¬((Int.gcd z u:Nat):Int)=1 by omega)]
         · refine(p_syyl z u hl ha hu (decide_eq_false h3) hP).mono ?_;rintro e w' ⟨x,rfl,hx,hy,hb⟩;refine⟨.inr ⟨fun q h=>?_,x,rfl⟩,hb⟩;obtain⟨r1,r2,-⟩:=hq q h;unfold Short
           rw [r1,show q.den=u.natAbs by omega];exact h3
     · exact(p_syn z b hl ha (fun u h=>h2 ⟨u,h⟩) hP).mono (none (fun q h=>absurd (strF_second h ha) h2))
   · exact(p_sn a b hl ha (fun z h=>h1 ⟨z,h⟩) hP).mono (none (fun q h=>absurd (strF_first h ha) h1))
 · by_cases h1:∃z,l=strW z
   · obtain⟨z,rfl⟩:=h1;refine(p_ny z hl hs hP).mono ?_;rintro e w' ⟨x,rfl,hx,hy,hb⟩;refine⟨?_,hb⟩;have hz:strF ((z:Int):Rat)=strW z:=by rw [strF,if_pos (show((z:Int):Rat).den=1 from rfl)];rfl
     by_cases h3:(dec z.natAbs).length≤300
     · exact .inl ⟨z,x,hz.symm,⟨h3,by rw [show ((z:Int):Rat).den=1 from rfl];exact Nat.le_trans (dec_len (n:=1) (K:=1) (by decide)) (by decide)⟩,by rw [decide_eq_true (show((dec z.natAbs).length:Int)≤300 by omega)],hx.tight (short_lt h3),hy.tight (by decide)⟩
     · refine .inr ⟨fun q h=>?_,x,by rw [decide_eq_false (show ¬((dec z.natAbs).length:Int)≤300 by omega)]⟩;obtain rfl:=strF_inj (hz.trans h);exact fun k=>h3 k.1
   · exact(p_nn l hl hs (fun z h=>h1 ⟨z,h⟩) hP).mono (none (fun q h=>absurd (strF_whole h hs) h1))
end
end Go.Proofs.YtpdghgfbfmaplaaGreatDoor.Wh
end
