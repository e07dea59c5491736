/- Lemmas for RatLists. -/
import Derived.Test.YtpdghgfbfmaplaaGreatDoorQG
set_option maxRecDepth 100000
set_option maxHeartbeats 8000000
section
set_option linter.unusedVariables false
namespace Go.Proofs.YtpdghgfbfmaplaaGreatDoor.Wh
open Go.RowKit Go.Proofs.YtpdghgfbfmaplaaGreatDoorW.PrintWords Go.Proofs.YtpdghgfbfmaplaaGreatDoor.Num Go.Proofs.YtpdghgfbfmaplaaGreatDoor.PWhole Go.Proofs.YtpdghgfbfmaplaaGreatDoor.WhC
theorem start_2_2r1{t0 t1:TypeId}(w:World)(a0 a1 b0 b1:Value)(o0:Obj):let W:=(((w.alloc (Obj.cells #[a0,a1] t0)).alloc (Obj.cells #[b0,b1] t1)).alloc o0).drew
 W.cell? ⟨w.heap.size,0,none⟩=some a0∧W.cell? ⟨w.heap.size,1,none⟩=some a1∧W.cell? ⟨w.heap.size+1,0,none⟩=some b0∧W.cell? ⟨w.heap.size+1,1,none⟩=some b1:=by
 refine⟨?_,?_,?_,?_⟩ <;> go_simp
section
variable {P:Nat→Prop} {K K':Nat} {w:World}
theorem add_same{b b':Bool}{A A':Option Addr}{c c':Nat}{l l':List Int}{z u:Int}(h2:Sl P w (.slice A l.length c) l)(h2':Sl P w (.slice A' l'.length c') l')(hl:l.length≤K+1)(hl':l'.length≤K+1)(h3:Rep B l (z.natAbs:Int))(h3':Rep B l' (u.natAbs:Int))(hK:K≤20000000000000)(hP:∀k,w.heap.size≤k→P k)
 (hKb:(z+u).natAbs<1000000000^(K+1)) (hbb:(b==b')=true) (hM:((z+u).natAbs:Int)=val B l+val B l'∧(b=decide (z+u<0)∨z+u=0)) :
 Calls Tryz.prog 109 #[.agg #[.bool b,.slice A l.length c],.agg #[.bool b',.slice A' l'.length c']] w fun e w'=>∃r:WV,e=.returned (.agg #[.bool r.b,.slice r.A r.n r.c])∧IsW P (K+1) w' r (z+u)∧Below w.heap.size w w':=by
 have H2:=Lib.hid (h2.ex (g:=(w.heap.size+1+1)) (by omega))
 have H2':=Lib.hid (h2'.ex (g:=(w.heap.size+1+1)) (by omega))
 have H3:=Lib.hid h3
 have H3':=Lib.hid h3'
 have HP:=Lib.hid hP
 have HKb:=Lib.hid hKb
 clear h2 h2' h3 h3' hP hKb
 have HM:=Lib.hid hM
 clear hM
 go_enter Tryz.func109,Tryz.ntmps109
 go_wp2_with fail
 go_region_held3 (fun W=>W.cell? ⟨w.heap.size,0,none⟩=some (.bool b)∧W.cell? ⟨w.heap.size,1,none⟩=some (.slice A l.length c)∧W.cell? ⟨w.heap.size+1,0,none⟩=some (.bool b')∧W.cell? ⟨w.heap.size+1,1,none⟩=some (.slice A' l'.length c'))
  (first|(with_reducible exact start_2_2r1 _ _ _ _ _ _)|((try dsimp only);(try go_split_ands);refine⟨?_,?_,?_,?_⟩ <;> first|assumption|(rw [World.cell?_drew];assumption)|(with_reducible exact(Below.cell (by assumption) arq).trans (by assumption))|(with_reducible exact cell_far (cell_far (cell_far (cell_far (by assumption) arq) arq) arq) arq)|(with_reducible exact cell_far (cell_far (by assumption) arq) arq)|(with_reducible exact cell_far (by assumption) arq)))
  (first
  | (go_at_call 128;go_must (with_reducible refine(c_more (P:=Ex P (w.heap.size+1+1)) (H2.out.below blo) (H2'.out.below blo) (rdg H3.out) (rdg H3'.out) (by omega) (by omega) (ex_fresh HP.out blo arq)).mono ?_);rintro e w1 ⟨A1,c1,r,rfl,hs1,hd1,hl1,hv1,hb1⟩;have HS1:=Lib.hid hs1;clear hs1;have HD1:=Lib.hid hd1;clear hd1;have HL1:=Lib.hid hl1;clear hl1;have HV1:=Lib.hid hv1;clear hv1;have hz1:w.heap.size+3≤w1.heap.size:=(by have:=hb1.size;(try simp at this);omega);have q1_0_0:w1.cell? ⟨w.heap.size,0,none⟩=some (.bool b):=(hb1.cell arq).trans (by first|exact rfl|(go_simp;done));have q1_0_1:w1.cell? ⟨w.heap.size,1,none⟩=some (.slice A l.length c):=(hb1.cell arq).trans (by first|exact rfl|(go_simp;done));have q1_1_0:w1.cell? ⟨w.heap.size+1,0,none⟩=some (.bool b'):=(hb1.cell arq).trans (by first|exact rfl|(go_simp;done));have q1_1_1:w1.cell? ⟨w.heap.size+1,1,none⟩=some (.slice A' l'.length c'):=(hb1.cell arq).trans (by first|exact rfl|(go_simp;done));have q1_2_0:w1.cell? ⟨w.heap.size+1+1,0,none⟩=some (.bool false):=(hb1.cell arq).trans (by first|exact rfl|(go_simp;done));have z1_2_0:w1.frozen? ⟨w.heap.size+1+1,0,none⟩=false:=(hb1.frozen arq).trans (by first|exact rfl|(go_simp;done));have q1_2_1:w1.cell? ⟨w.heap.size+1+1,1,none⟩=some (.slice none 0 0):=(hb1.cell arq).trans (by first|exact rfl|(go_simp;done));have z1_2_1:w1.frozen? ⟨w.heap.size+1+1,1,none⟩=false:=(hb1.frozen arq).trans (by first|exact rfl|(go_simp;done)))
  | (go_at_call 112;go_must (with_reducible refine(c_signed (P:=Ex P (w.heap.size+1+1)) (K:=K+1) b (HS1.out.below blo) (by have:=HL1.out;omega) HD1.out (z+u) (HM.out.1.trans HV1.out.symm) HM.out.2 HKb.out (ex_fresh HP.out blo arq)).mono ?_);rintro e w2 ⟨y,rfl,hy,hb2⟩;have HY:=Lib.hid hy;clear hy;have hz2:w.heap.size+3≤w2.heap.size:=(by have:=hb2.size;(try simp at this);omega);have q2_0_0:w2.cell? ⟨w.heap.size,0,none⟩=some (.bool b):=(hb2.cell arq).trans (by first|exact q1_0_0|(go_simp;done));have q2_0_1:w2.cell? ⟨w.heap.size,1,none⟩=some (.slice A l.length c):=(hb2.cell arq).trans (by first|exact q1_0_1|(go_simp;done));have q2_1_0:w2.cell? ⟨w.heap.size+1,0,none⟩=some (.bool b'):=(hb2.cell arq).trans (by first|exact q1_1_0|(go_simp;done));have q2_1_1:w2.cell? ⟨w.heap.size+1,1,none⟩=some (.slice A' l'.length c'):=(hb2.cell arq).trans (by first|exact q1_1_1|(go_simp;done));have q2_2_0:w2.cell? ⟨w.heap.size+1+1,0,none⟩=some (.bool false):=(hb2.cell arq).trans (by first|exact q1_2_0|(go_simp;done));have z2_2_0:w2.frozen? ⟨w.heap.size+1+1,0,none⟩=false:=(hb2.frozen arq).trans (by first|exact z1_2_0|(go_simp;done));have q2_2_1:w2.cell? ⟨w.heap.size+1+1,1,none⟩=some (.slice none 0 0):=(hb2.cell arq).trans (by first|exact q1_2_1|(go_simp;done));have z2_2_1:w2.frozen? ⟨w.heap.size+1+1,1,none⟩=false:=(hb2.frozen arq).trans (by first|exact z1_2_1|(go_simp;done))))
 go_wp2_with fail
 refine bodyPost_ret (v:=.agg #[.bool y.b,.slice y.A y.n y.c]) (by simp [results,Tryz.results109,go_sem,q2_2_0,q2_2_1]) rfl ⟨y,rfl,?_,?_⟩
 · exact((HY.out.set _ _).set _ _).out
 · exact blo
theorem add_ge{b b':Bool}{A A':Option Addr}{c c':Nat}{l l':List Int}{z u:Int}(h2:Sl P w (.slice A l.length c) l)(h2':Sl P w (.slice A' l'.length c') l')(hl:l.length≤K+1)(hl':l'.length≤K+1)(h3:Rep B l (z.natAbs:Int))(h3':Rep B l' (u.natAbs:Int))(hK:K≤20000000000000)(hP:∀k,w.heap.size≤k→P k)
 (hKb:(z+u).natAbs<1000000000^(K+1)) (hbb:(b==b')=false) (hge:u.natAbs≤z.natAbs) (hM:((z+u).natAbs:Int)=val B l-val B l'∧(b=decide (z+u<0)∨z+u=0)) :
 Calls Tryz.prog 109 #[.agg #[.bool b,.slice A l.length c],.agg #[.bool b',.slice A' l'.length c']] w fun e w'=>∃r:WV,e=.returned (.agg #[.bool r.b,.slice r.A r.n r.c])∧IsW P (K+1) w' r (z+u)∧Below w.heap.size w w':=by
 have H2:=Lib.hid (h2.ex (g:=(w.heap.size+1+1)) (by omega))
 have H2':=Lib.hid (h2'.ex (g:=(w.heap.size+1+1)) (by omega))
 have H3:=Lib.hid h3
 have H3':=Lib.hid h3'
 have HP:=Lib.hid hP
 have HKb:=Lib.hid hKb
 clear h2 h2' h3 h3' hP hKb
 have HM:=Lib.hid hM
 have HG:=Lib.hid hge
 clear hM hge
 go_enter Tryz.func109,Tryz.ntmps109
 go_wp2_with fail
 go_wp2_with (first
  | (go_at_call 116;go_must (with_reducible refine(c_compare (P:=Ex P (w.heap.size+1+1)) (H2.out.below blo) (H2'.out.below blo) H3.out H3'.out (by omega) (by omega)).mono ?_);rintro e w1 ⟨rc,rfl,hc1,hb1⟩;have HC1:=Lib.hid hc1;clear hc1;have hz1:w.heap.size+3≤w1.heap.size:=(by have:=hb1.size;(try simp at this);omega);have q1_0_0:w1.cell? ⟨w.heap.size,0,none⟩=some (.bool b):=(hb1.cell arq).trans (by first|exact rfl|(go_simp;done));have q1_0_1:w1.cell? ⟨w.heap.size,1,none⟩=some (.slice A l.length c):=(hb1.cell arq).trans (by first|exact rfl|(go_simp;done));have q1_1_0:w1.cell? ⟨w.heap.size+1,0,none⟩=some (.bool b'):=(hb1.cell arq).trans (by first|exact rfl|(go_simp;done));have q1_1_1:w1.cell? ⟨w.heap.size+1,1,none⟩=some (.slice A' l'.length c'):=(hb1.cell arq).trans (by first|exact rfl|(go_simp;done));have q1_2_0:w1.cell? ⟨w.heap.size+1+1,0,none⟩=some (.bool false):=(hb1.cell arq).trans (by first|exact rfl|(go_simp;done));have z1_2_0:w1.frozen? ⟨w.heap.size+1+1,0,none⟩=false:=(hb1.frozen arq).trans (by first|exact rfl|(go_simp;done));have q1_2_1:w1.cell? ⟨w.heap.size+1+1,1,none⟩=some (.slice none 0 0):=(hb1.cell arq).trans (by first|exact rfl|(go_simp;done));have z1_2_1:w1.frozen? ⟨w.heap.size+1+1,1,none⟩=false:=(hb1.frozen arq).trans (by first|exact rfl|(go_simp;done));have hrc:(0:Int)≤rc:=(by have:=HC1.out;have:=HG.out;omega)))
 go_region_held3 (fun W=>W.cell? ⟨w.heap.size,0,none⟩=some (.bool b)∧W.cell? ⟨w.heap.size,1,none⟩=some (.slice A l.length c)∧W.cell? ⟨w.heap.size+1,0,none⟩=some (.bool b')∧W.cell? ⟨w.heap.size+1,1,none⟩=some (.slice A' l'.length c'))
  (first|(with_reducible exact start_2_2r1 _ _ _ _ _ _)|((try dsimp only);(try go_split_ands);refine⟨?_,?_,?_,?_⟩ <;> first|assumption|(rw [World.cell?_drew];assumption)|(with_reducible exact(Below.cell (by assumption) arq).trans (by assumption))|(with_reducible exact cell_far (cell_far (cell_far (cell_far (by assumption) arq) arq) arq) arq)|(with_reducible exact cell_far (cell_far (by assumption) arq) arq)|(with_reducible exact cell_far (by assumption) arq)))
  (first
  | (go_at_call 129;go_must (with_reducible refine(c_less (P:=Ex P (w.heap.size+1+1)) (H2.out.below blo) (H2'.out.below blo) (rdg H3.out) (rdg H3'.out) (by omega) (by rw [rval H3.out,rval H3'.out];have:=HG.out;omega) (ex_fresh HP.out blo arq)).mono ?_);rintro e w2 ⟨A1,c1,r,rfl,hs1,hd1,hl1,hv1,hb2⟩;have HS1:=Lib.hid hs1;clear hs1;have HD1:=Lib.hid hd1;clear hd1;have HL1:=Lib.hid hl1;clear hl1;have HV1:=Lib.hid hv1;clear hv1;have hz2:w.heap.size+3≤w2.heap.size:=(by have:=hb2.size;(try simp at this);omega);have q2_0_0:w2.cell? ⟨w.heap.size,0,none⟩=some (.bool b):=(hb2.cell arq).trans (by first|exact q1_0_0|(go_simp;done));have q2_0_1:w2.cell? ⟨w.heap.size,1,none⟩=some (.slice A l.length c):=(hb2.cell arq).trans (by first|exact q1_0_1|(go_simp;done));have q2_1_0:w2.cell? ⟨w.heap.size+1,0,none⟩=some (.bool b'):=(hb2.cell arq).trans (by first|exact q1_1_0|(go_simp;done));have q2_1_1:w2.cell? ⟨w.heap.size+1,1,none⟩=some (.slice A' l'.length c'):=(hb2.cell arq).trans (by first|exact q1_1_1|(go_simp;done));have q2_2_0:w2.cell? ⟨w.heap.size+1+1,0,none⟩=some (.bool false):=(hb2.cell arq).trans (by first|exact q1_2_0|(go_simp;done));have z2_2_0:w2.frozen? ⟨w.heap.size+1+1,0,none⟩=false:=(hb2.frozen arq).trans (by first|exact z1_2_0|(go_simp;done));have q2_2_1:w2.cell? ⟨w.heap.size+1+1,1,none⟩=some (.slice none 0 0):=(hb2.cell arq).trans (by first|exact q1_2_1|(go_simp;done));have z2_2_1:w2.frozen? ⟨w.heap.size+1+1,1,none⟩=false:=(hb2.frozen arq).trans (by first|exact z1_2_1|(go_simp;done)))
  | (go_at_call 112;go_must (with_reducible refine(c_signed (P:=Ex P (w.heap.size+1+1)) (K:=K+1) b (HS1.out.below blo) (by have:=HL1.out;omega) HD1.out (z+u) (HM.out.1.trans HV1.out.symm) HM.out.2 HKb.out (ex_fresh HP.out blo arq)).mono ?_);rintro e w3 ⟨y,rfl,hy,hb3⟩;have HY:=Lib.hid hy;clear hy;have hz3:w.heap.size+3≤w3.heap.size:=(by have:=hb3.size;(try simp at this);omega);have q3_0_0:w3.cell? ⟨w.heap.size,0,none⟩=some (.bool b):=(hb3.cell arq).trans (by first|exact q2_0_0|(go_simp;done));have q3_0_1:w3.cell? ⟨w.heap.size,1,none⟩=some (.slice A l.length c):=(hb3.cell arq).trans (by first|exact q2_0_1|(go_simp;done));have q3_1_0:w3.cell? ⟨w.heap.size+1,0,none⟩=some (.bool b'):=(hb3.cell arq).trans (by first|exact q2_1_0|(go_simp;done));have q3_1_1:w3.cell? ⟨w.heap.size+1,1,none⟩=some (.slice A' l'.length c'):=(hb3.cell arq).trans (by first|exact q2_1_1|(go_simp;done));have q3_2_0:w3.cell? ⟨w.heap.size+1+1,0,none⟩=some (.bool false):=(hb3.cell arq).trans (by first|exact q2_2_0|(go_simp;done));have z3_2_0:w3.frozen? ⟨w.heap.size+1+1,0,none⟩=false:=(hb3.frozen arq).trans (by first|exact z2_2_0|(go_simp;done));have q3_2_1:w3.cell? ⟨w.heap.size+1+1,1,none⟩=some (.slice none 0 0):=(hb3.cell arq).trans (by first|exact q2_2_1|(go_simp;done));have z3_2_1:w3.frozen? ⟨w.heap.size+1+1,1,none⟩=false:=(hb3.frozen arq).trans (by first|exact z2_2_1|(go_simp;done))))
 go_wp2_with fail
 refine bodyPost_ret (v:=.agg #[.bool y.b,.slice y.A y.n y.c]) (by simp [results,Tryz.results109,go_sem,q3_2_0,q3_2_1]) rfl ⟨y,rfl,?_,?_⟩
 · exact((HY.out.set _ _).set _ _).out
 · exact blo
theorem add_lt{b b':Bool}{A A':Option Addr}{c c':Nat}{l l':List Int}{z u:Int}(h2:Sl P w (.slice A l.length c) l)(h2':Sl P w (.slice A' l'.length c') l')(hl:l.length≤K+1)(hl':l'.length≤K+1)(h3:Rep B l (z.natAbs:Int))(h3':Rep B l' (u.natAbs:Int))(hK:K≤20000000000000)(hP:∀k,w.heap.size≤k→P k)
 (hKb:(z+u).natAbs<1000000000^(K+1)) (hbb:(b==b')=false) (hlt:z.natAbs<u.natAbs) (hM:((z+u).natAbs:Int)=val B l'-val B l∧(b'=decide (z+u<0)∨z+u=0)) :
 Calls Tryz.prog 109 #[.agg #[.bool b,.slice A l.length c],.agg #[.bool b',.slice A' l'.length c']] w fun e w'=>∃r:WV,e=.returned (.agg #[.bool r.b,.slice r.A r.n r.c])∧IsW P (K+1) w' r (z+u)∧Below w.heap.size w w':=by
 have H2:=Lib.hid (h2.ex (g:=(w.heap.size+1+1)) (by omega))
 have H2':=Lib.hid (h2'.ex (g:=(w.heap.size+1+1)) (by omega))
 have H3:=Lib.hid h3
 have H3':=Lib.hid h3'
 have HP:=Lib.hid hP
 have HKb:=Lib.hid hKb
 clear h2 h2' h3 h3' hP hKb
 have HM:=Lib.hid hM
 have HG:=Lib.hid hlt
 clear hM hlt
 go_enter Tryz.func109,Tryz.ntmps109
 go_wp2_with fail
 go_wp2_with (first
  | (go_at_call 116;go_must (with_reducible refine(c_compare (P:=Ex P (w.heap.size+1+1)) (H2.out.below blo) (H2'.out.below blo) H3.out H3'.out (by omega) (by omega)).mono ?_);rintro e w1 ⟨rc,rfl,hc1,hb1⟩;have HC1:=Lib.hid hc1;clear hc1;have hz1:w.heap.size+3≤w1.heap.size:=(by have:=hb1.size;(try simp at this);omega);have q1_0_0:w1.cell? ⟨w.heap.size,0,none⟩=some (.bool b):=(hb1.cell arq).trans (by first|exact rfl|(go_simp;done));have q1_0_1:w1.cell? ⟨w.heap.size,1,none⟩=some (.slice A l.length c):=(hb1.cell arq).trans (by first|exact rfl|(go_simp;done));have q1_1_0:w1.cell? ⟨w.heap.size+1,0,none⟩=some (.bool b'):=(hb1.cell arq).trans (by first|exact rfl|(go_simp;done));have q1_1_1:w1.cell? ⟨w.heap.size+1,1,none⟩=some (.slice A' l'.length c'):=(hb1.cell arq).trans (by first|exact rfl|(go_simp;done));have q1_2_0:w1.cell? ⟨w.heap.size+1+1,0,none⟩=some (.bool false):=(hb1.cell arq).trans (by first|exact rfl|(go_simp;done));have z1_2_0:w1.frozen? ⟨w.heap.size+1+1,0,none⟩=false:=(hb1.frozen arq).trans (by first|exact rfl|(go_simp;done));have q1_2_1:w1.cell? ⟨w.heap.size+1+1,1,none⟩=some (.slice none 0 0):=(hb1.cell arq).trans (by first|exact rfl|(go_simp;done));have z1_2_1:w1.frozen? ⟨w.heap.size+1+1,1,none⟩=false:=(hb1.frozen arq).trans (by first|exact rfl|(go_simp;done));have hrc:¬(0:Int)≤rc:=(by have:=HC1.out;have:=HG.out;omega)))
 go_region_held3 (fun W=>W.cell? ⟨w.heap.size,0,none⟩=some (.bool b)∧W.cell? ⟨w.heap.size,1,none⟩=some (.slice A l.length c)∧W.cell? ⟨w.heap.size+1,0,none⟩=some (.bool b')∧W.cell? ⟨w.heap.size+1,1,none⟩=some (.slice A' l'.length c'))
  (first|(with_reducible exact start_2_2r1 _ _ _ _ _ _)|((try dsimp only);(try go_split_ands);refine⟨?_,?_,?_,?_⟩ <;> first|assumption|(rw [World.cell?_drew];assumption)|(with_reducible exact(Below.cell (by assumption) arq).trans (by assumption))|(with_reducible exact cell_far (cell_far (cell_far (cell_far (by assumption) arq) arq) arq) arq)|(with_reducible exact cell_far (cell_far (by assumption) arq) arq)|(with_reducible exact cell_far (by assumption) arq)))
  (first
  | (go_at_call 129;go_must (with_reducible refine(c_less (P:=Ex P (w.heap.size+1+1)) (H2'.out.below blo) (H2.out.below blo) (rdg H3'.out) (rdg H3.out) (by omega) (by rw [rval H3.out,rval H3'.out];have:=HG.out;omega) (ex_fresh HP.out blo arq)).mono ?_);rintro e w2 ⟨A1,c1,r,rfl,hs1,hd1,hl1,hv1,hb2⟩;have HS1:=Lib.hid hs1;clear hs1;have HD1:=Lib.hid hd1;clear hd1;have HL1:=Lib.hid hl1;clear hl1;have HV1:=Lib.hid hv1;clear hv1;have hz2:w.heap.size+3≤w2.heap.size:=(by have:=hb2.size;(try simp at this);omega);have q2_0_0:w2.cell? ⟨w.heap.size,0,none⟩=some (.bool b):=(hb2.cell arq).trans (by first|exact q1_0_0|(go_simp;done));have q2_0_1:w2.cell? ⟨w.heap.size,1,none⟩=some (.slice A l.length c):=(hb2.cell arq).trans (by first|exact q1_0_1|(go_simp;done));have q2_1_0:w2.cell? ⟨w.heap.size+1,0,none⟩=some (.bool b'):=(hb2.cell arq).trans (by first|exact q1_1_0|(go_simp;done));have q2_1_1:w2.cell? ⟨w.heap.size+1,1,none⟩=some (.slice A' l'.length c'):=(hb2.cell arq).trans (by first|exact q1_1_1|(go_simp;done));have q2_2_0:w2.cell? ⟨w.heap.size+1+1,0,none⟩=some (.bool false):=(hb2.cell arq).trans (by first|exact q1_2_0|(go_simp;done));have z2_2_0:w2.frozen? ⟨w.heap.size+1+1,0,none⟩=false:=(hb2.frozen arq).trans (by first|exact z1_2_0|(go_simp;done));have q2_2_1:w2.cell? ⟨w.heap.size+1+1,1,none⟩=some (.slice none 0 0):=(hb2.cell arq).trans (by first|exact q1_2_1|(go_simp;done));have z2_2_1:w2.frozen? ⟨w.heap.size+1+1,1,none⟩=false:=(hb2.frozen arq).trans (by first|exact z1_2_1|(go_simp;done)))
  | (go_at_call 112;go_must (with_reducible refine(c_signed (P:=Ex P (w.heap.size+1+1)) (K:=K+1) b' (HS1.out.below blo) (by have:=HL1.out;omega) HD1.out (z+u) (HM.out.1.trans HV1.out.symm) HM.out.2 HKb.out (ex_fresh HP.out blo arq)).mono ?_);rintro e w3 ⟨y,rfl,hy,hb3⟩;have HY:=Lib.hid hy;clear hy;have hz3:w.heap.size+3≤w3.heap.size:=(by have:=hb3.size;(try simp at this);omega);have q3_0_0:w3.cell? ⟨w.heap.size,0,none⟩=some (.bool b):=(hb3.cell arq).trans (by first|exact q2_0_0|(go_simp;done));have q3_0_1:w3.cell? ⟨w.heap.size,1,none⟩=some (.slice A l.length c):=(hb3.cell arq).trans (by first|exact q2_0_1|(go_simp;done));have q3_1_0:w3.cell? ⟨w.heap.size+1,0,none⟩=some (.bool b'):=(hb3.cell arq).trans (by first|exact q2_1_0|(go_simp;done));have q3_1_1:w3.cell? ⟨w.heap.size+1,1,none⟩=some (.slice A' l'.length c'):=(hb3.cell arq).trans (by first|exact q2_1_1|(go_simp;done));have q3_2_0:w3.cell? ⟨w.heap.size+1+1,0,none⟩=some (.bool false):=(hb3.cell arq).trans (by first|exact q2_2_0|(go_simp;done));have z3_2_0:w3.frozen? ⟨w.heap.size+1+1,0,none⟩=false:=(hb3.frozen arq).trans (by first|exact z2_2_0|(go_simp;done));have q3_2_1:w3.cell? ⟨w.heap.size+1+1,1,none⟩=some (.slice none 0 0):=(hb3.cell arq).trans (by first|exact q2_2_1|(go_simp;done));have z3_2_1:w3.frozen? ⟨w.heap.size+1+1,1,none⟩=false:=(hb3.frozen arq).trans (by first|exact z2_2_1|(go_simp;done))))
 go_wp2_with fail
 refine bodyPost_ret (v:=.agg #[.bool y.b,.slice y.A y.n y.c]) (by simp [results,Tryz.results109,go_sem,q3_2_0,q3_2_1]) rfl ⟨y,rfl,?_,?_⟩
 · exact((HY.out.set _ _).set _ _).out
 · exact blo
end
end Go.Proofs.YtpdghgfbfmaplaaGreatDoor.Wh
end
section
set_option linter.unusedVariables false
namespace Go.Proofs.YtpdghgfbfmaplaaGreatDoor.Wh
open Go.RowKit Go.Proofs.YtpdghgfbfmaplaaGreatDoorW.PrintWords Go.Proofs.YtpdghgfbfmaplaaGreatDoor.Num Go.Proofs.YtpdghgfbfmaplaaGreatDoor.PWhole Go.Proofs.YtpdghgfbfmaplaaGreatDoor.WhC
section
variable {P:Nat→Prop} {K K':Nat} {w:World}
theorem c_Add{x y:WV}{z u:Int}(hx:IsW P K w x z)(hy:IsW P K w y u)(hK:K≤20000000000000)(hP:∀k,w.heap.size≤k→P k) :
 Calls Tryz.prog 109 #[.agg #[.bool x.b,.slice x.A x.n x.c],.agg #[.bool y.b,.slice y.A y.n y.c]] w fun e w'=>∃r:WV,e=.returned (.agg #[.bool r.b,.slice r.A r.n r.c])∧IsW P (K+1) w' r (z+u)∧Below w.heap.size w w':=by
 obtain⟨b,A,n,c⟩:=x
 obtain⟨⟨l,rfl,h2,h3,h4⟩,h5⟩:=hx
 obtain⟨b',A',n',c'⟩:=y
 obtain⟨⟨l',rfl,h2',h3',h4'⟩,h5'⟩:=hy
 have hl:=rep_len h3 h4
 have hl':=rep_len h3' h4'
 simp only [Int.natAbs_natCast]at h4 h4'
 have hKb:(z+u).natAbs<1000000000^(K+1):=by rw [Nat.pow_succ];omega
 have e1:=rval h3
 have e2:=rval h3'
 simp only at h5 h5'
 by_cases hb:b=b'
 · refine add_same h2 h2' hl hl' h3 h3' hK hP hKb (by simpa using hb) ?_;have e5:decide (z<0)=decide (u<0):=by rw [←h5,←h5',hb]
   rw [decide_eq_decide]at e5;refine⟨by omega,?_⟩;rw [h5];by_cases hz:z+u=0
   · exact .inr hz
   · left;rw [decide_eq_decide];omega
 · have e5:¬(z<0↔u<0):=fun e=>hb (by rw [h5,h5',decide_eq_decide];exact e)
   by_cases hge:u.natAbs≤z.natAbs
   · refine add_ge h2 h2' hl hl' h3 h3' hK hP hKb (by simpa using hb) hge ⟨by omega,?_⟩;rw [h5];by_cases hz:z+u=0
     · exact .inr hz
     · left;rw [decide_eq_decide];omega
   · refine add_lt h2 h2' hl hl' h3 h3' hK hP hKb (by simpa using hb) (by omega) ⟨by omega,?_⟩;rw [h5'];by_cases hz:z+u=0
     · exact .inr hz
     · left;rw [decide_eq_decide];omega
theorem c_Sub{x y:WV}{z u:Int}(hx:IsW P K w x z)(hy:IsW P K w y u)(hK:K≤20000000000000)(hP:∀k,w.heap.size≤k→P k) :
 Calls Tryz.prog 119 #[.agg #[.bool x.b,.slice x.A x.n x.c],.agg #[.bool y.b,.slice y.A y.n y.c]] w fun e w'=>∃r:WV,e=.returned (.agg #[.bool r.b,.slice r.A r.n r.c])∧IsW P (K+1) w' r (z-u)∧Below w.heap.size w w':=by
 have HX:=Lib.hid (hx.ex (g:=(w.heap.size+1+1)) (by omega))
 have HY:=Lib.hid (hy.ex (g:=(w.heap.size+1+1)) (by omega))
 have HP:=Lib.hid hP
 clear hx hy hP
 go_enter Tryz.func119,Tryz.ntmps119
 go_wp2_with fail
 go_region_held3 (fun W=>W.cell? ⟨w.heap.size,0,none⟩=some (.bool x.b)∧W.cell? ⟨w.heap.size,1,none⟩=some (.slice x.A x.n x.c)∧W.cell? ⟨w.heap.size+1,0,none⟩=some (.bool y.b)∧W.cell? ⟨w.heap.size+1,1,none⟩=some (.slice y.A y.n y.c))
  (first|(with_reducible exact start_2_2r1 _ _ _ _ _ _)|((try dsimp only);(try go_split_ands);refine⟨?_,?_,?_,?_⟩ <;> first|assumption|(rw [World.cell?_drew];assumption)|(with_reducible exact(Below.cell (by assumption) arq).trans (by assumption))|(with_reducible exact cell_far (cell_far (cell_far (cell_far (by assumption) arq) arq) arq) arq)|(with_reducible exact cell_far (cell_far (by assumption) arq) arq)|(with_reducible exact cell_far (by assumption) arq)))
  (first
  | (go_at_call 93;go_must (with_reducible refine(c_Neg (P:=Ex P (w.heap.size+1+1)) (HY.out.below blo) (by omega) (ex_fresh HP.out blo arq)).mono ?_);rintro e w1 ⟨ny,rfl,hny,hb1⟩;have HNY:=Lib.hid hny;clear hny;have hz1:w.heap.size+3≤w1.heap.size:=(by have:=hb1.size;(try simp at this);omega);have q1_0_0:w1.cell? ⟨w.heap.size,0,none⟩=some (.bool x.b):=(hb1.cell arq).trans (by first|exact rfl|(go_simp;done));have q1_0_1:w1.cell? ⟨w.heap.size,1,none⟩=some (.slice x.A x.n x.c):=(hb1.cell arq).trans (by first|exact rfl|(go_simp;done));have q1_1_0:w1.cell? ⟨w.heap.size+1,0,none⟩=some (.bool y.b):=(hb1.cell arq).trans (by first|exact rfl|(go_simp;done));have q1_1_1:w1.cell? ⟨w.heap.size+1,1,none⟩=some (.slice y.A y.n y.c):=(hb1.cell arq).trans (by first|exact rfl|(go_simp;done));have q1_2_0:w1.cell? ⟨w.heap.size+1+1,0,none⟩=some (.bool false):=(hb1.cell arq).trans (by first|exact rfl|(go_simp;done));have z1_2_0:w1.frozen? ⟨w.heap.size+1+1,0,none⟩=false:=(hb1.frozen arq).trans (by first|exact rfl|(go_simp;done));have q1_2_1:w1.cell? ⟨w.heap.size+1+1,1,none⟩=some (.slice none 0 0):=(hb1.cell arq).trans (by first|exact rfl|(go_simp;done));have z1_2_1:w1.frozen? ⟨w.heap.size+1+1,1,none⟩=false:=(hb1.frozen arq).trans (by first|exact rfl|(go_simp;done)))
  | (go_at_call 109;go_must (with_reducible refine(c_Add (P:=Ex P (w.heap.size+1+1)) (HX.out.below blo) (HNY.out.below blo) (by omega) (ex_fresh HP.out blo arq)).mono ?_);rintro e w2 ⟨r,rfl,hr,hb2⟩;have HR:=Lib.hid hr;clear hr;have hz2:w.heap.size+3≤w2.heap.size:=(by have:=hb2.size;(try simp at this);omega);have q2_0_0:w2.cell? ⟨w.heap.size,0,none⟩=some (.bool x.b):=(hb2.cell arq).trans (by first|exact q1_0_0|(go_simp;done));have q2_0_1:w2.cell? ⟨w.heap.size,1,none⟩=some (.slice x.A x.n x.c):=(hb2.cell arq).trans (by first|exact q1_0_1|(go_simp;done));have q2_1_0:w2.cell? ⟨w.heap.size+1,0,none⟩=some (.bool y.b):=(hb2.cell arq).trans (by first|exact q1_1_0|(go_simp;done));have q2_1_1:w2.cell? ⟨w.heap.size+1,1,none⟩=some (.slice y.A y.n y.c):=(hb2.cell arq).trans (by first|exact q1_1_1|(go_simp;done));have q2_2_0:w2.cell? ⟨w.heap.size+1+1,0,none⟩=some (.bool false):=(hb2.cell arq).trans (by first|exact q1_2_0|(go_simp;done));have z2_2_0:w2.frozen? ⟨w.heap.size+1+1,0,none⟩=false:=(hb2.frozen arq).trans (by first|exact z1_2_0|(go_simp;done));have q2_2_1:w2.cell? ⟨w.heap.size+1+1,1,none⟩=some (.slice none 0 0):=(hb2.cell arq).trans (by first|exact q1_2_1|(go_simp;done));have z2_2_1:w2.frozen? ⟨w.heap.size+1+1,1,none⟩=false:=(hb2.frozen arq).trans (by first|exact z1_2_1|(go_simp;done))))
 go_wp2_with fail
 refine bodyPost_ret (v:=.agg #[.bool r.b,.slice r.A r.n r.c]) (by simp [results,Tryz.results119,go_sem,q2_2_0,q2_2_1]) rfl ⟨r,rfl,?_,?_⟩
 · rw [Int.sub_eq_add_neg];exact((HR.out.set _ _).set _ _).out
 · exact blo
theorem c_Cmp{x y:WV}{z u:Int}(hx:IsW P K w x z)(hy:IsW P K w y u)(hK:K≤20000000000000)(hP:∀k,w.heap.size≤k→P k) :
 Calls Tryz.prog 104 #[.agg #[.bool x.b,.slice x.A x.n x.c],.agg #[.bool y.b,.slice y.A y.n y.c]] w fun e w'=>e=.returned (.int .i64 (z-u).sign)∧Below w.heap.size w w':=by
 have HX:=Lib.hid hx
 have HY:=Lib.hid hy
 have HP:=Lib.hid hP
 clear hx hy hP
 go_enter Tryz.func104,Tryz.ntmps104
 go_wp2_with fail
 go_wp2_with (first
  | (go_at_call 119;go_must (with_reducible refine(c_Sub (P:=P) (HX.out.below blo) (HY.out.below blo) (by omega) (fun k hk=>HP.out k (Nat.le_trans (Below.size blo) hk))).mono ?_);rintro e w1 ⟨r,rfl,hr,hb1⟩;have HR:=Lib.hid hr;clear hr;have hz1:w.heap.size+2≤w1.heap.size:=(by have:=hb1.size;(try simp at this);omega);have q1_0_0:w1.cell? ⟨w.heap.size,0,none⟩=some (.bool x.b):=(hb1.cell arq).trans (by first|exact rfl|(go_simp;done));have q1_0_1:w1.cell? ⟨w.heap.size,1,none⟩=some (.slice x.A x.n x.c):=(hb1.cell arq).trans (by first|exact rfl|(go_simp;done));have q1_1_0:w1.cell? ⟨w.heap.size+1,0,none⟩=some (.bool y.b):=(hb1.cell arq).trans (by first|exact rfl|(go_simp;done));have q1_1_1:w1.cell? ⟨w.heap.size+1,1,none⟩=some (.slice y.A y.n y.c):=(hb1.cell arq).trans (by first|exact rfl|(go_simp;done)))
  | (go_at_call 90;go_must (with_reducible refine(c_Sign (P:=P) (HR.out.below blo)).mono ?_);rintro e w2 ⟨rfl,hb2⟩;have hz2:w.heap.size+2≤w2.heap.size:=(by have:=hb2.size;(try simp at this);omega);have q2_0_0:w2.cell? ⟨w.heap.size,0,none⟩=some (.bool x.b):=(hb2.cell arq).trans (by first|exact q1_0_0|(go_simp;done));have q2_0_1:w2.cell? ⟨w.heap.size,1,none⟩=some (.slice x.A x.n x.c):=(hb2.cell arq).trans (by first|exact q1_0_1|(go_simp;done));have q2_1_0:w2.cell? ⟨w.heap.size+1,0,none⟩=some (.bool y.b):=(hb2.cell arq).trans (by first|exact q1_1_0|(go_simp;done));have q2_1_1:w2.cell? ⟨w.heap.size+1,1,none⟩=some (.slice y.A y.n y.c):=(hb2.cell arq).trans (by first|exact q1_1_1|(go_simp;done))))
 go_ret
 exact⟨rfl,blo⟩
theorem sl_one(hP:∀k,w.heap.size≤k→P k)(y:Int):Sl P (w.alloc (.cells #[.int .u32 y] 95)) (.slice (some ⟨w.heap.size,0,none⟩) [y].length 1) [y]:=by
 have:Kd.R (Kd.int .u32) 95 (w.alloc (.cells #[.int .u32 y] 95)) w.heap.size (fun k=>w.heap.size≤k) (.slice (some ⟨w.heap.size,0,none⟩) 1 1) [y] :=
  ⟨fun k hk=>by (have:w.heap.size=k:=by simpa [Value.ownBlock]using hk);omega,[.int .u32 y],⟨rfl,.inr ⟨w.heap.size,1,#[.int .u32 y],rfl,Nat.le_refl _,heap_alloc_new w _,Nat.le_refl _,by simp [maxLen],rfl,rfl⟩⟩,Reps.one rfl (Reps.none _ _)⟩
 exact Kd.V_mono (Kd.R_V this) (fun k hk=>hP k hk)
theorem run_field50_1(W:World)(b:Bool)(A:Option Addr)(n c:Nat):(Instr.field 50 (.agg #[.bool b,.slice A n c]) 1).run Tryz.prog W=.ok (.slice A n c) W:=by kernel_rfl
theorem c_times{A1:Option Addr}{c1:Nat}{l:List Int}{y:Int}(hs:Sl P w (.slice A1 l.length c1) l)(z:Int)(hz:Rep B l z)(hK:z.natAbs<1000000000^K)(hKb:K≤100000000000)(hy:0≤y∧y<1000000000)(hP:∀k,w.heap.size≤k→P k) :
 Calls Tryz.prog 133 #[.slice A1 l.length c1,.int .u32 y] w fun e w'=>∃(A2:Option Addr) (c2:Nat) (r:List Int),e=.returned (.slice A2 r.length c2)∧Sl P w' (.slice A2 r.length c2) r∧Rep B r (z*y)∧Below w.heap.size w w':=by
 have hz0:=hz.nonneg (by decide)
 have HX:=Lib.hid (show IsW P K w ⟨false,A1,l.length,c1⟩ z from⟨⟨l,rfl,hs,by rwa [show (z.natAbs:Int)=z by omega],by simpa using hK⟩,by simp;omega⟩)
 have HP:=Lib.hid hP
 have HPL:=c_plain (P:=P) (w:=w.alloc (.cells #[.int .u32 y] 95)) (l:=[y]) (sl_one hP y) (by simp) (by intro a ha;simp at ha;subst ha;exact hy) (fun k hk=>hP k (by simp at hk;omega))
 simp only [List.length_cons,List.length_nil,Nat.zero_add]at HPL
 rw [show val B [y]=y by simp [val]]at HPL
 have HPL:=Lib.hid HPL
 have HYB:=Lib.hid hy
 clear hs hz hP hK hz0 hy
 have hfld:=run_field50_1
 go_enter Tryz.func133,Tryz.ntmps133
 go_wp2_with fail
 refine HPL.out.mono ?_
 rintro e w1 ⟨A2,c2,r,rfl,hs2,hr2,hb1⟩
 have HYW:=Lib.hid (show IsW P 1 w1 ⟨false,A2,r.length,c2⟩ y from⟨⟨r,rfl,hs2,by rw [show (y.natAbs:Int)=y by have:=HYB.out;omega];exact hr2,by have:=HYB.out;simp;omega⟩,by have:=HYB.out;simp;omega⟩)
 clear hs2 hr2
 go_wp2_with fail
 have HM:=c_Mul (P:=P) (HX.out.below blo) HYW.out (by omega) (by omega) (fun k hk=>HP.out k (Nat.le_trans (Below.size blo) hk))
 refine HM.mono ?_
 clear HM
 rintro e w2 ⟨m,rfl,hm,hb2⟩
 have HMM:=Lib.hid hm
 clear hm
 go_wp2_with fail
 go_ret
 have hb:Below w.heap.size w w2:=blo
 obtain⟨⟨l2,e1,e2,e3,e4⟩,_⟩:=HMM.out
 refine⟨m.A,m.c,l2,by (first|(rw [e1];rfl)|simp [e1]),by rw [e1];exact e2,?_,hb⟩
 have h1:=HX.out.1.nonneg
 have:((z*y).natAbs:Int)=z*y:=by
  have h0:0≤z:=by have:=HX.out.2;simp at this;exact this
  have:=Int.mul_nonneg h0 HYB.out.1;omega
 rwa [this]at e3
end
end Go.Proofs.YtpdghgfbfmaplaaGreatDoor.Wh
end
section
set_option linter.unusedVariables false
namespace Go.Proofs.YtpdghgfbfmaplaaGreatDoor.Wh
open Go.RowKit
def Fr(L:List (Nat×Nat×Value))(s:Nat)(W:World):Prop :=
 s≤W.heap.size∧∀x∈L,x.1<s∧W.cell? ⟨x.1,x.2.1,none⟩=some x.2.2∧W.frozen? ⟨x.1,x.2.1,none⟩=false
section
variable {L L':List (Nat×Nat×Value)} {s B:Nat} {W W1:World}
theorem Fr.below(h:Fr L s W)(hb:Below B W W1)(hB:s≤B):Fr L s W1 :=
 ⟨Nat.le_trans h.1 hb.size,fun x hx=>by
  obtain⟨h1,h2,h3⟩:=h.2 x hx
  exact⟨h1,(hb.cell (p:=⟨x.1,x.2.1,none⟩) (Nat.lt_of_lt_of_le h1 hB)).trans h2,(hb.frozen (p:=⟨x.1,x.2.1,none⟩) (Nat.lt_of_lt_of_le h1 hB)).trans h3⟩⟩
theorem Fr.go(h:Fr L s W)(hb:Below W.heap.size W W1):Fr L s W1:=h.below hb h.1
theorem Fr.get(h:Fr L s W)(i:Nat){b j:Nat}{v:Value}(hi:L[i]?=some (b,j,v)):W.cell? ⟨b,j,none⟩=some v:=(h.2 (b,j,v) (List.mem_of_getElem? hi)).2.1
theorem Fr.frz(h:Fr L s W)(i:Nat){b j:Nat}{v:Value}(hi:L[i]?=some (b,j,v)):W.frozen? ⟨b,j,none⟩=false:=(h.2 (b,j,v) (List.mem_of_getElem? hi)).2.2
theorem Fr.nil(hs:s≤W.heap.size):Fr [] s W:=⟨hs,fun x hx=>by simp at hx⟩
theorem Fr.cons{b j:Nat}{v:Value}(h:Fr L s W)(hb:b<s)(h1:W.cell? ⟨b,j,none⟩=some v)(h2:W.frozen? ⟨b,j,none⟩=false):Fr ((b,j,v) :: L) s W :=
 ⟨h.1,fun x hx=>by
  rcases List.mem_cons.1 hx with rfl|hx
  · exact⟨hb,h1,h2⟩
  · exact h.2 x hx⟩
theorem Fr.up{s':Nat}(h:Fr L s W)(hs:s≤s')(hW:s'≤W.heap.size):Fr L s' W :=
 ⟨hW,fun x hx=>⟨Nat.lt_of_lt_of_le (h.2 x hx).1 hs,(h.2 x hx).2⟩⟩
theorem Fr.app(h:Fr L s W)(h':Fr L' s W):Fr (L++L') s W :=
 ⟨h.1,fun x hx=>by rcases List.mem_append.1 hx with hx|hx;exact h.2 x hx;exact h'.2 x hx⟩
theorem Fr.put{b j:Nat}(v u:Value)(h:Fr ((b,j,u) :: L) s W)(hd:∀x∈L,¬(x.1=b∧x.2.1=j)):Fr ((b,j,v) :: L) s (W.setCell ⟨b,j,none⟩ v):=by
 have h0:=h.2 (b,j,u) (by simp)
 refine⟨by have:=h.1;simpa [World.setCell]using this,fun x hx=>?_⟩
 rcases List.mem_cons.1 hx with rfl|hx
 · exact⟨h0.1,by rw [World.cell?_setCell_same (h:=h0.2.1)],by rw [World.frozen?_setCell];exact h0.2.2⟩
 · obtain⟨h1,h2,h3⟩:=h.2 x (List.mem_cons_of_mem _ hx);refine⟨h1,?_,by rw [World.frozen?_setCell];exact h3⟩;rw [World.cell?_setCell_other (h:=fun e=>hd x hx (by injection e with e1 e2;exact⟨e1.symm,e2.symm⟩))];exact h2
theorem Fr.new1(h:Fr L s W)(v0 v1:Value)(t:TypeId):Fr ((W.heap.size,0,v0) :: (W.heap.size,1,v1) :: L) (W.heap.size+1) (W.alloc (.cells #[v0,v1] t)):=by
 have h1:Fr L s (W.alloc (.cells #[v0,v1] t)):=h.go ((Below.refl _ _).alloc (Nat.le_refl _) _)
 have hs:W.heap.size+1≤(W.alloc (.cells #[v0,v1] t)).heap.size:=by simp
 exact((h1.up (Nat.le_succ_of_le h.1) hs).cons (by omega) (by simp) (by simp)).cons (by omega) (by simp) (by simp)
end
end Go.Proofs.YtpdghgfbfmaplaaGreatDoor.Wh
end
section
set_option linter.unusedVariables false
namespace Go.Proofs.YtpdghgfbfmaplaaGreatDoor.Wh
open Go.RowKit
def Conj(W:World):List (Nat×Nat×Value)→Prop
 | []=>True
 | (b,j,v) :: l=>W.cell? ⟨b,j,none⟩=some v∧Conj W l
def Conz(W:World):List (Nat×Nat×Value)→Prop
 | []=>True
 | (b,j,_) :: l=>W.frozen? ⟨b,j,none⟩=false∧Conz W l
def Conl(W:World):List (Nat×Nat×Value)→Prop
 | []=>True
 | [(b,j,v)]=>W.cell? ⟨b,j,none⟩=some v
 | (b,j,v) :: y :: l=>W.cell? ⟨b,j,none⟩=some v∧Conl W (y :: l)
theorem conj_of{W:World}:∀ {L:List (Nat×Nat×Value)},(∀x∈L,W.cell? ⟨x.1,x.2.1,none⟩=some x.2.2)→Conj W L
 | [],_=>trivial
 | x :: l,h=>⟨h x List.mem_cons_self,conj_of fun y hy=>h y (List.mem_cons_of_mem _ hy)⟩
theorem conz_of{W:World}:∀ {L:List (Nat×Nat×Value)},(∀x∈L,W.frozen? ⟨x.1,x.2.1,none⟩=false)→Conz W L
 | [],_=>trivial
 | x :: l,h=>⟨h x List.mem_cons_self,conz_of fun y hy=>h y (List.mem_cons_of_mem _ hy)⟩
theorem conl_of{W:World}:∀ {L:List (Nat×Nat×Value)},(∀x∈L,W.cell? ⟨x.1,x.2.1,none⟩=some x.2.2)→Conl W L
 | [],_=>trivial
 | [x],h=>h x List.mem_cons_self
 | x :: y :: l,h=>⟨h x List.mem_cons_self,conl_of fun z hz=>h z (List.mem_cons_of_mem _ hz)⟩
theorem Fr.alls{L:List (Nat×Nat×Value)}{s:Nat}{W:World}(h:Fr L s W)(i n:Nat):Conj W ((L.drop i).take n):=conj_of fun x hx=>(h.2 x (List.mem_of_mem_drop (List.mem_of_mem_take hx))).2.1
theorem Fr.falls{L:List (Nat×Nat×Value)}{s:Nat}{W:World}(h:Fr L s W)(i n:Nat):Conz W ((L.drop i).take n):=conz_of fun x hx=>(h.2 x (List.mem_of_mem_drop (List.mem_of_mem_take hx))).2.2
theorem fgo{L:List (Nat×Nat×Value)}{s:Nat}{W:World}(W':World)(h:Hid (Fr L s W))(e:Below W.heap.size W W':=by exact blq):Hid (Fr L s W'):=Lib.hid (h.out.go e)
theorem Fr.all{L:List (Nat×Nat×Value)}{s:Nat}{W:World}(h:Fr L s W)(i n:Nat):Conl W ((L.drop i).take n):=conl_of fun x hx=>(h.2 x (List.mem_of_mem_drop (List.mem_of_mem_take hx))).2.1
end Go.Proofs.YtpdghgfbfmaplaaGreatDoor.Wh
end
