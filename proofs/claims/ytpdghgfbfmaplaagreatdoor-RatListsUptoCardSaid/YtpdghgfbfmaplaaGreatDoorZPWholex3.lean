/- Lemmas for RatLists. -/
import Derived.Test.YtpdghgfbfmaplaaGreatDoorQC
set_option maxRecDepth 100000
set_option maxHeartbeats 8000000
section
namespace Go.Proofs.YtpdghgfbfmaplaaGreatDoor.PWhole
open Go.RowKit Go.Proofs.YtpdghgfbfmaplaaGreatDoorW.PrintWords Go.Proofs.YtpdghgfbfmaplaaGreatDoorW.PrintLast Go.Proofs.YtpdghgfbfmaplaaGreatDoorW.PrintMore
attribute [local go_sem] max2_int min2_int max_two min_two max_three min_three max_four min_four   -- for this text's walks alone
set_option linter.unusedVariables false
set_option linter.unusedSimpArgs false
mutual
def whole_Whole_Mul.l0:Nat→List Int→List Int→Int→Int→Bool→List Int→Bool→List Int→Option (Bool×List Int)
 | 0,_,_,_,_,_,_,_,_=>none
 | k+1,x5,x24,x25,x26,x154000,x154001,x155000,x155001=>if x26<x25 then(if 0≤x26 then(if x26<(x24.length:Int)then (whole_Whole_Mul.l1 k x5 x26 (rd x24 x26) 0 x24 x25 x26 x155001 (x155001.length:Int) 0 x154000 x154001 x155000 x155001)else (none))else (none))else ((whole_signed.f k x5 (x154000 !=x155000)).bind fun bt165=>(some (bt165.1,bt165.2)))
def whole_Whole_Mul.l1:Nat→List Int→Int→Int→Int→List Int→Int→Int→List Int→Int→Int→Bool→List Int→Bool→List Int→Option (Bool×List Int)
 | 0,_,_,_,_,_,_,_,_,_,_,_,_,_,_=>none
 | k+1,x5,x6,x7,x8,x24,x25,x26,x32,x33,x34,x154000,x154001,x155000,x155001=>if x34<x33 then(if 0≤x34 then(if x34<(x32.length:Int)then (if 0≤(wrap64 (x6+x34))then (if (wrap64 (x6+x34))<(x5.length:Int)then (whole_Whole_Mul.l1 k (x5.set ((wrap64 (x6+x34)):Int).toNat ((Int.tmod (IntKind.u64.wrap ((IntKind.u64.wrap ((IntKind.u64.wrap ((IntKind.u64.wrap (x7))*(IntKind.u64.wrap (rd x32 x34))))+(IntKind.u64.wrap (rd x5 (wrap64 (x6+x34))))))+x8)) 1000000000)%4294967296)) x6 x7 (IntKind.u64.wrap (Int.tdiv (IntKind.u64.wrap ((IntKind.u64.wrap ((IntKind.u64.wrap ((IntKind.u64.wrap (x7))*(IntKind.u64.wrap (rd x32 x34))))+(IntKind.u64.wrap (rd x5 (wrap64 (x6+x34))))))+x8)) 1000000000)) x24 x25 x26 x32 x33 (wrap64 (x34+1)) x154000 x154001 x155000 x155001)else (none))else (none))else (none))else (none))else (whole_Whole_Mul.l2 k x5 x8 (wrap64 (x6+(x155001.length:Int))) x24 x25 x26 x154000 x154001 x155000 x155001)
def whole_Whole_Mul.l2:Nat→List Int→Int→Int→List Int→Int→Int→Bool→List Int→Bool→List Int→Option (Bool×List Int)
 | 0,_,_,_,_,_,_,_,_,_,_=>none
 | k+1,x5,x8,x12,x24,x25,x26,x154000,x154001,x155000,x155001=>if x8>0 then(if 0≤x12 then(if x12<(x5.length:Int)then (whole_Whole_Mul.l2 k (x5.set (x12:Int).toNat ((Int.tmod (IntKind.u64.wrap ((IntKind.u64.wrap (rd x5 x12))+x8)) 1000000000)%4294967296)) (IntKind.u64.wrap (Int.tdiv (IntKind.u64.wrap ((IntKind.u64.wrap (rd x5 x12))+x8)) 1000000000)) (wrap64 (x12+1)) x24 x25 x26 x154000 x154001 x155000 x155001)else (none))else (none))else (whole_Whole_Mul.l0 k x5 x24 x25 (wrap64 (x26+1)) x154000 x154001 x155000 x155001)
end
def whole_Whole_Mul.f(k:Nat)(a0_0:Bool)(l0_1:List Int)(a1_0:Bool)(l1_1:List Int):Option (Bool×List Int):=if 0≤(wrap64 ((wrap64 ((l0_1.length:Int)+(l1_1.length:Int)))+1))then (if (wrap64 ((wrap64 ((l0_1.length:Int)+(l1_1.length:Int)))+1):Int).toNat≤70368744177664 then(whole_Whole_Mul.l0 k (List.replicate (wrap64 ((wrap64 ((l0_1.length:Int)+(l1_1.length:Int)))+1):Int).toNat 0) l0_1 (l0_1.length:Int) 0 a0_0 l0_1 a1_0 l1_1)else (none))else (none)
theorem whole_Whole_Mul.calls(k:Nat)(a0_0:Bool)(A0_1:Option Addr)(c0_1:Nat)(l0_1:List Int)(a1_0:Bool)(A1_1:Option Addr)(c1_1:Nat)(l1_1:List Int)(r1:Bool)(r2:List Int)(w:World)(hr0_1:Kd.C (Kd.int .u32) w A0_1 l0_1.length l0_1)(hc0_1:l0_1.length≤c0_1)(hr1_1:Kd.C (Kd.int .u32) w A1_1 l1_1.length l1_1)(hc1_1:l1_1.length≤c1_1)(h:whole_Whole_Mul.f k a0_0 l0_1 a1_0 l1_1=some (r1,r2)) :
 Calls Tryz.prog 80 #[.agg #[.bool a0_0,.slice A0_1 l0_1.length c0_1],.agg #[.bool a1_0,.slice A1_1 l1_1.length c1_1]] w fun e w'=>∃v1_:Value,e=.returned (.agg #[.bool r1,v1_])∧Kd.V (Kd.int .u32) 95 w' w.heap.size (fun k_=>(w.heap.size≤k_)) v1_ r2∧Below w.heap.size w w':=by
 have hu50:=Tryz.underlying50
 have HR0_1:=Aside0.mk hr0_1
 have HC0_1:=Aside0.mk hc0_1
 clear hr0_1 hc0_1
 have HR1_1:=Aside0.mk hr1_1
 have HC1_1:=Aside0.mk hc1_1
 clear hr1_1 hc1_1
 have HB:=Aside0.mk (Below.refl w.heap.size w)
 have H:(if 0≤(wrap64 ((wrap64 ((l0_1.length:Int)+(l1_1.length:Int)))+1))then (if (wrap64 ((wrap64 ((l0_1.length:Int)+(l1_1.length:Int)))+1):Int).toNat≤70368744177664 then(whole_Whole_Mul.l0 k (List.replicate (wrap64 ((wrap64 ((l0_1.length:Int)+(l1_1.length:Int)))+1):Int).toNat 0) l0_1 (l0_1.length:Int) 0 a0_0 l0_1 a1_0 l1_1)else (none))else (none))=some (r1,r2):=h
 clear h
 obtain⟨ji3,hji3⟩:∃j_:Int,(wrap64 ((wrap64 ((l0_1.length:Int)+(l1_1.length:Int)))+1))=j_:=⟨_,rfl⟩
 replace H:(if 0≤(ji3)then (if (ji3:Int).toNat≤70368744177664 then(whole_Whole_Mul.l0 k (List.replicate (ji3:Int).toNat 0) l0_1 (l0_1.length:Int) 0 a0_0 l0_1 a1_0 l1_1)else (none))else (none))=some (r1,r2):=by first|(rw [hji3]at H;exact H)|(simp only [hji3]at H ⊢;exact H)
 have hji3w:(IntKind.i64.wrap ((wrap64 ((l0_1.length:Int)+(l1_1.length:Int)))+1))=ji3:=(i64_w _).trans hji3
 replace H:=ifs H
 obtain⟨c4,H⟩:=H
 have c4b0:=eq_true c4
 have c4b1:=decide_eq_true c4
 clear c4
 replace H:=ifs H
 obtain⟨c5,H⟩:=H
 have c5b0:=eq_true c5
 have c5b1:=decide_eq_true c5
 clear c5
 obtain⟨y156,hy156⟩:∃y_:List Int,y_=(List.replicate (ji3:Int).toNat 0):=⟨_,rfl⟩
 replace H:(whole_Whole_Mul.l0 k y156 l0_1 (l0_1.length:Int) 0 a0_0 l0_1 a1_0 l1_1)=some (r1,r2):=ry hy156 H
 have Ny156:=Aside0.mk hy156
 clear hy156
 have H':=Aside0.mk H
 clear H
 go_enter Tryz.func80,Tryz.ntmps80
 go_wp2_with (first|((with_reducible refine gate_dst (N:=2) rfl ?_);refine box_event ?hg (N:=2) ?hd (cs:= #[.bool a0_0,.slice A0_1 l0_1.length c0_1]) (t:=50) ?hr ?_;(case hd=>rfl);(case hg=>rfl);(case hr=>first|(go_simp;done)|(go_simp;rfl));intro gb153 hg w6 hbox hb;have n0_:=Aside0.mk (below_step pb hb);have n1_:=Aside0.mk (hbox);have n2_:=Aside0.mk ((by rw [hg];exact(below_size pb):w.heap.size≤gb153));have n3_:=Aside0.mk ((by rw [hg];exact(below_size pb):w.heap.size≤gb153));clear HB;have HB:=n0_;have BK153:=n1_;have GW153:=n2_;have GE153:=n3_;clear n0_ n1_ n2_ n3_;clear hb hbox hg)|((with_reducible refine gate_dst (N:=3) rfl ?_);refine box_event ?hg (N:=3) ?hd (cs:= #[.bool a1_0,.slice A1_1 l1_1.length c1_1]) (t:=50) ?hr ?_;(case hd=>rfl);(case hg=>rfl);(case hr=>first|(go_simp;done)|(go_simp;rfl));intro gb154 hg w7 hbox hb;have n0_:=Aside0.mk (blk_below (g:=gb153) (o:=.cells #[.bool a0_0,.slice A0_1 l0_1.length c0_1] 50 (0,0)) (rbk BK153.out) hb);have n1_:=Aside0.mk (below_step (by repeat (first|(with_reducible first|exact HB.out|apply below_alloc|apply pw_below_drewN|apply below_drew1|refine below_set ?_ GE153.out)|exact HB.out)) hb);have n2_:=Aside0.mk (hbox);have n3_:=Aside0.mk ((by rw [hg];exact(below_size (by repeat (first|(with_reducible first|exact HB.out|apply below_alloc|apply pw_below_drewN|apply below_drew1|refine below_set ?_ GE153.out)|exact HB.out))):w.heap.size≤gb154));have n4_:=Aside0.mk ((by rw [hg];exact(below_size (by repeat (first|(with_reducible first|exact HB.out|apply below_alloc|apply pw_below_drewN|apply below_drew1|refine below_set ?_ GE153.out)|exact HB.out))):w.heap.size≤gb154));have n5_:=Aside0.mk ((by rw [hg];exact Nat.ne_of_lt (blk_lt (g:=gb153) (o:=.cells #[.bool a0_0,.slice A0_1 l0_1.length c0_1] 50 (0,0)) (rbk BK153.out)):gb153≠gb154));have n6_:=Aside0.mk ((by rw [hg];exact Nat.ne_of_gt (blk_lt (g:=gb153) (o:=.cells #[.bool a0_0,.slice A0_1 l0_1.length c0_1] 50 (0,0)) (rbk BK153.out)):gb154≠gb153));clear BK153;clear HB;have BK153:=n0_;have HB:=n1_;have BK154:=n2_;have GW154:=n3_;have GE154:=n4_;have NB153_154:=n5_;have NB154_153:=n6_;clear n0_ n1_ n2_ n3_ n4_ n5_ n6_;clear hb hbox hg)|((with_reducible refine gate_dst (N:=4) rfl ?_);refine box_event ?hg (N:=4) ?hd (cs:= #[.bool false,.slice none 0 0]) (t:=50) ?hr ?_;(case hd=>rfl);(case hg=>rfl);(case hr=>first|(go_simp;done)|(go_simp;rfl));intro gb155 hg w8 hbox hb;have n0_:=Aside0.mk (blk_below (g:=gb153) (o:=.cells #[.bool a0_0,.slice A0_1 l0_1.length c0_1] 50 (0,0)) (rbk BK153.out) hb);have n1_:=Aside0.mk (blk_below (g:=gb154) (o:=.cells #[.bool a1_0,.slice A1_1 l1_1.length c1_1] 50 (0,0)) (rbk BK154.out) hb);have n2_:=Aside0.mk (below_step (by repeat (first|(with_reducible first|exact HB.out|apply below_alloc|apply pw_below_drewN|apply below_drew1|refine below_set ?_ GE153.out|refine below_set ?_ GE154.out)|exact HB.out)) hb);have n3_:=Aside0.mk (hbox);have n4_:=Aside0.mk ((by rw [hg];exact(below_size (by repeat (first|(with_reducible first|exact HB.out|apply below_alloc|apply pw_below_drewN|apply below_drew1|refine below_set ?_ GE153.out|refine below_set ?_ GE154.out)|exact HB.out))):w.heap.size≤gb155));have n5_:=Aside0.mk ((by rw [hg];exact(below_size (by repeat (first|(with_reducible first|exact HB.out|apply below_alloc|apply pw_below_drewN|apply below_drew1|refine below_set ?_ GE153.out|refine below_set ?_ GE154.out)|exact HB.out))):w.heap.size≤gb155));have n6_:=Aside0.mk ((by rw [hg];exact Nat.ne_of_lt (blk_lt (g:=gb153) (o:=.cells #[.bool a0_0,.slice A0_1 l0_1.length c0_1] 50 (0,0)) (rbk BK153.out)):gb153≠gb155));have n7_:=Aside0.mk ((by rw [hg];exact Nat.ne_of_gt (blk_lt (g:=gb153) (o:=.cells #[.bool a0_0,.slice A0_1 l0_1.length c0_1] 50 (0,0)) (rbk BK153.out)):gb155≠gb153));have n8_:=Aside0.mk ((by rw [hg];exact Nat.ne_of_lt (blk_lt (g:=gb154) (o:=.cells #[.bool a1_0,.slice A1_1 l1_1.length c1_1] 50 (0,0)) (rbk BK154.out)):gb154≠gb155));have n9_:=Aside0.mk ((by rw [hg];exact Nat.ne_of_gt (blk_lt (g:=gb154) (o:=.cells #[.bool a1_0,.slice A1_1 l1_1.length c1_1] 50 (0,0)) (rbk BK154.out)):gb155≠gb154));clear BK153;clear BK154;clear HB;have BK153:=n0_;have BK154:=n1_;have HB:=n2_;have BK155:=n3_;have GW155:=n4_;have GE155:=n5_;have NB153_155:=n6_;have NB155_153:=n7_;have NB154_155:=n8_;have NB155_154:=n9_;clear n0_ n1_ n2_ n3_ n4_ n5_ n6_ n7_ n8_ n9_;clear hb hbox hg;have hnb9:=NB153_154.out;have hnc9:=NB154_153.out;have hnb10:=NB153_155.out;have hnc10:=NB155_153.out;have hcz11_0:w8.cell? ⟨gb153,0,none⟩=some (.bool a0_0):=(blk_cell BK153.out 0).trans rfl;have hcz11_1:w8.cell? ⟨gb153,1,none⟩=some (.slice A0_1 l0_1.length c0_1):=(blk_cell BK153.out 1).trans rfl;have hfz11_0:=blk_frozen BK153.out 0;have hfz11_1:=blk_frozen BK153.out 1;have hnb12:=NB154_155.out;have hnc12:=NB155_154.out;have hcz13_0:w8.cell? ⟨gb154,0,none⟩=some (.bool a1_0):=(blk_cell BK154.out 0).trans rfl;have hcz13_1:w8.cell? ⟨gb154,1,none⟩=some (.slice A1_1 l1_1.length c1_1):=(blk_cell BK154.out 1).trans rfl;have hfz13_0:=blk_frozen BK154.out 0;have hfz13_1:=blk_frozen BK154.out 1)|((with_reducible refine gate_dst (N:=22) rfl ?_);refine Kd.R_make (Kd.int .u32) _ 95 rfl (N:=22) rfl 48 _ _ rfl ji3 rfl rfl Tryz.underlying48 (.int .u32 0) 4 info70 rfl (by decide) (by omega) 0 (ok:=fun _=>True) (okp:=fun _=>True) rfl (fun _ hk=>hk) trivial (oda) (Nat.le_trans (Nat.mul_le_mul_right _ (oda:ji3.toNat≤70368744177664)) (by omega)) (Below.refl _ _) (Nat.le_refl _) ?_;intro v157 w14 ho15 hb hg_ hnew_;clear hg_ hnew_;(first|rw [←Ny156.out]at ho15|(simp only [Int.reduceToNat]at ho15;rw [←Ny156.out]at ho15));have n0_:=Aside0.mk (Kd.R_lower (Kd.R_newM (M:=fun k_=>(w.heap.size≤k_)) ho15 (below_size (by repeat (first|(with_reducible first|exact HB.out|apply below_alloc|apply pw_below_drewN|apply below_drew1|refine below_set ?_ GE153.out|refine below_set ?_ GE154.out|refine below_set ?_ GE155.out)|exact HB.out))) (fun k_ h_=>h_)) (below_size (by repeat (first|(with_reducible first|exact HB.out|apply below_alloc|apply pw_below_drewN|apply below_drew1|refine below_set ?_ GE153.out|refine below_set ?_ GE154.out|refine below_set ?_ GE155.out)|exact HB.out))));have n1_:=Aside0.mk (blk_below (g:=gb153) (o:=.cells #[.bool a0_0,.slice A0_1 l0_1.length c0_1] 50 (0,0)) (rbk BK153.out) hb);have n2_:=Aside0.mk (blk_below (g:=gb154) (o:=.cells #[.bool a1_0,.slice A1_1 l1_1.length c1_1] 50 (0,0)) (rbk BK154.out) hb);have n3_:=Aside0.mk (blk_below (g:=gb155) (o:=.cells #[.bool false,.slice none 0 0] 50 (0,0)) (rbk BK155.out) hb);have n4_:=Aside0.mk (below_step (by repeat (first|(with_reducible first|exact HB.out|apply below_alloc|apply pw_below_drewN|apply below_drew1|refine below_set ?_ GE153.out|refine below_set ?_ GE154.out|refine below_set ?_ GE155.out)|exact HB.out)) hb);clear BK153;clear BK154;clear BK155;clear HB;have HO158:=n0_;have BK153:=n1_;have BK154:=n2_;have BK155:=n3_;have HB:=n4_;clear n0_ n1_ n2_ n3_ n4_;clear hb ho15;have hcz16_0:w14.cell? ⟨gb153,0,none⟩=some (.bool a0_0):=(blk_cell BK153.out 0).trans rfl;have hcz16_1:w14.cell? ⟨gb153,1,none⟩=some (.slice A0_1 l0_1.length c0_1):=(blk_cell BK153.out 1).trans rfl;have hfz16_0:=blk_frozen BK153.out 0;have hfz16_1:=blk_frozen BK153.out 1))
 go_loopg [26] k (fun kq v26 w'=>∃(x5_1:List Int) (x26_1:Int),v26=.int .i64 x26_1∧Aside0 (whole_Whole_Mul.l0 kq x5_1 l0_1 (l0_1.length:Int) x26_1 a0_0 l0_1 a1_0 l1_1=some (r1,r2))∧Aside0 (kq≤k)∧Aside0 (Kd.R (Kd.int .u32) 95 w' w.heap.size (fun k_=>(w.heap.size≤k_)) v157 x5_1)∧Aside0 (w'.heap[gb153]?=some (.cells #[.bool a0_0,(.slice A0_1 l0_1.length c0_1)] 50 (0,0)))∧Aside0 (w'.heap[gb154]?=some (.cells #[.bool a1_0,(.slice A1_1 l1_1.length c1_1)] 50 (0,0)))∧Aside0 (w'.heap[gb155]?=some (.cells #[.bool false,(.slice none 0 0)] 50 (0,0)))∧Aside0 (Below w.heap.size w w'))
 case atStart=>exact ⟨(y156),(0),pr1,H',⟨Nat.le_refl _⟩,⟨by (with_reducible repeat (first|apply Kd.R_alloc|apply Kd.R_drewN|apply Kd.R_drew));exact Kd.R_mono HO158.out (fun _ hk=>hk.1)⟩,⟨rbk BK153.out⟩,⟨rbk BK154.out⟩,⟨rbk BK155.out⟩,⟨by repeat (first|(with_reducible first|exact HB.out|apply below_alloc|apply pw_below_drewN|apply below_drew1|refine below_set ?_ GE153.out|refine below_set ?_ GE154.out|refine below_set ?_ GE155.out)|exact HB.out)⟩⟩
 case round =>
  clear H';try clear c1
  try clear p2
  try clear c3
  try clear c4
  try clear c4b0
  try clear c4b1
  try clear c5
  try clear c5b0
  try clear c5b1
  try clear p6
  try clear c9
  try clear c10
  try clear c12
  try clear hcz11_0
  try clear hcz11_1
  try clear hcz13_0
  try clear hcz13_1
  try clear hcz16_0
  try clear hcz16_1
  try clear hfz11_0
  try clear hfz11_1
  try clear hfz13_0
  try clear hfz13_1
  try clear hfz16_0
  try clear hfz16_1
  obtain⟨x5_1,x26_1,rfl,HA,HK1,HO_5,BK153,BK154,BK155,HB⟩:=hrel;cases gk with
  | zero=>exact absurd HA.out (by simp [whole_Whole_Mul.l0])
  | succ k1 =>
   have H:=HA.out;clear HA;simp only [whole_Whole_Mul.l0]at H;by_cases c17:x26_1<(l0_1.length:Int)
   · rw [if_pos c17]at H;have c17b0:=decide_eq_true c17;clear c17;replace H:=ifs H;obtain⟨c18,H⟩:=H;have c18b0:=decide_eq_true c18;clear c18;replace H:=ifs H;obtain⟨c19,H⟩:=H;have c19b0:=decide_eq_true c19;clear c19;have H':=Aside0.mk H;clear H;have p159:0≤(x26_1:Int):=oda;have q159:x26_1<(l0_1.length:Int):=oda;obtain⟨ad159,e159,hx159_0⟩:=Kd.at_int HR0_1.out x26_1 p159 q159;cases e159;replace hx159_0:=(HB.out.cell (World.block_lt_of_cell? w _ hx159_0)).trans hx159_0;replace p159:=eq_true p159;replace q159:=eq_true q159;have hnb20:=NB154_153.out;have hnc20:=NB153_154.out;have hnb21:=NB154_155.out;have hnc21:=NB155_154.out;have hcz22_0:wr.cell? ⟨gb154,0,none⟩=some (.bool a1_0):=(blk_cell BK154.out 0).trans rfl;have hcz22_1:wr.cell? ⟨gb154,1,none⟩=some (.slice A1_1 l1_1.length c1_1):=(blk_cell BK154.out 1).trans rfl;have hfz22_0:=blk_frozen BK154.out 0;have hfz22_1:=blk_frozen BK154.out 1;go_wp2
     go_loopg [8,34] k1 (fun kq v8 v34 w'=>∃(x5_2:List Int) (x8_2:Int) (x34_2:Int),v8=.int .u64 x8_2∧v34=.int .i64 x34_2∧Aside0 (whole_Whole_Mul.l1 kq x5_2 x26_1 (rd l0_1 x26_1) x8_2 l0_1 (l0_1.length:Int) x26_1 l1_1 (l1_1.length:Int) x34_2 a0_0 l0_1 a1_0 l1_1=some (r1,r2))∧Aside0 (kq≤k1)∧Aside0 (Kd.R (Kd.int .u32) 95 w' w.heap.size (fun k_=>(w.heap.size≤k_)) v157 x5_2)∧Aside0 (w'.heap[gb153]?=some (.cells #[.bool a0_0,(.slice (some ad159) l0_1.length c0_1)] 50 (0,0)))∧Aside0 (w'.heap[gb154]?=some (.cells #[.bool a1_0,(.slice A1_1 l1_1.length c1_1)] 50 (0,0)))∧Aside0 (w'.heap[gb155]?=some (.cells #[.bool false,(.slice none 0 0)] 50 (0,0)))∧Aside0 (Below w.heap.size w w'))
     case atStart=>exact ⟨(x5_1),(0),(0),pr1,pr1,H',⟨Nat.le_refl _⟩,⟨rq HO_5.out⟩,⟨rbk BK153.out⟩,⟨rbk BK154.out⟩,⟨rbk BK155.out⟩,⟨by repeat (first|(with_reducible first|exact HB.out|apply below_alloc|apply pw_below_drewN|apply below_drew1|refine below_set ?_ GE153.out|refine below_set ?_ GE154.out|refine below_set ?_ GE155.out)|exact HB.out)⟩⟩
     case round =>
      clear H';try clear c1
      try clear p1
      try clear q1
      try clear hx1
      try clear c2
      try clear p2
      try clear c3
      try clear c4
      try clear c4b0
      try clear c4b1
      try clear c5
      try clear c5b0
      try clear c5b1
      try clear p6
      try clear c9
      try clear c10
      try clear c12
      try clear p15
      try clear q15
      try clear hx15
      try clear c17
      try clear c17b0
      try clear c18
      try clear c18b0
      try clear c19
      try clear c19b0
      try clear c20
      try clear c21
      try clear hcz11_0
      try clear hcz11_1
      try clear hcz13_0
      try clear hcz13_1
      try clear hcz16_0
      try clear hcz16_1
      try clear hcz22_0
      try clear hcz22_1
      try clear hfz11_0
      try clear hfz11_1
      try clear hfz13_0
      try clear hfz13_1
      try clear hfz16_0
      try clear hfz16_1
      try clear hfz22_0
      try clear hfz22_1
      try clear hx159_0
      try clear p159
      try clear p2
      try clear p6
      try clear q159
      obtain⟨x5_2,x8_2,x34_2,rfl,rfl,HA,HK2,HO_5,BK153,BK154,BK155,HB⟩:=hrel;cases gk with
      | zero=>exact absurd HA.out (by simp [whole_Whole_Mul.l1])
      | succ k2 =>
       have H:=HA.out;clear HA;simp only [whole_Whole_Mul.l1]at H;by_cases c23:x34_2<(l1_1.length:Int)
       · rw [if_pos c23]at H;have c23b0:=decide_eq_true c23;clear c23;replace H:=ifs H;obtain⟨c24,H⟩:=H;have c24b0:=decide_eq_true c24;clear c24;replace H:=ifs H;obtain⟨c25,H⟩:=H;have c25b0:=decide_eq_true c25;clear c25;obtain⟨ji26,hji26⟩:∃j_:Int,(wrap64 (x26_1+x34_2))=j_:=⟨_,rfl⟩;replace H:(if 0≤(ji26)then (if (ji26)<(x5_2.length:Int)then (whole_Whole_Mul.l1 k2 (x5_2.set ((ji26):Int).toNat ((Int.tmod (IntKind.u64.wrap ((IntKind.u64.wrap ((IntKind.u64.wrap ((IntKind.u64.wrap ((rd l0_1 x26_1)))*(IntKind.u64.wrap (rd l1_1 x34_2))))+(IntKind.u64.wrap (rd x5_2 (ji26)))))+x8_2)) 1000000000)%4294967296)) x26_1 (rd l0_1 x26_1) (IntKind.u64.wrap (Int.tdiv (IntKind.u64.wrap ((IntKind.u64.wrap ((IntKind.u64.wrap ((IntKind.u64.wrap ((rd l0_1 x26_1)))*(IntKind.u64.wrap (rd l1_1 x34_2))))+(IntKind.u64.wrap (rd x5_2 (ji26)))))+x8_2)) 1000000000)) l0_1 (l0_1.length:Int) x26_1 l1_1 (l1_1.length:Int) (wrap64 (x34_2+1)) a0_0 l0_1 a1_0 l1_1)else (none))else (none))=some (r1,r2):=by first|(rw [hji26]at H;exact H)|(simp only [hji26]at H ⊢;exact H)
         have hji26w:(IntKind.i64.wrap (x26_1+x34_2))=ji26:=(i64_w _).trans hji26;replace H:=ifs H;obtain⟨c27,H⟩:=H;have c27b0:=decide_eq_true c27;clear c27;replace H:=ifs H;obtain⟨c28,H⟩:=H;have c28b0:=decide_eq_true c28;clear c28;obtain⟨y162,hy162⟩:∃y_:List Int,y_=(x5_2.set ((ji26):Int).toNat ((Int.tmod (IntKind.u64.wrap ((IntKind.u64.wrap ((IntKind.u64.wrap ((IntKind.u64.wrap ((rd l0_1 x26_1)))*(IntKind.u64.wrap (rd l1_1 x34_2))))+(IntKind.u64.wrap (rd x5_2 (ji26)))))+x8_2)) 1000000000)%4294967296)):=⟨_,rfl⟩;replace H:(whole_Whole_Mul.l1 k2 y162 x26_1 (rd l0_1 x26_1) (IntKind.u64.wrap (Int.tdiv (IntKind.u64.wrap ((IntKind.u64.wrap ((IntKind.u64.wrap ((IntKind.u64.wrap ((rd l0_1 x26_1)))*(IntKind.u64.wrap (rd l1_1 x34_2))))+(IntKind.u64.wrap (rd x5_2 (ji26)))))+x8_2)) 1000000000)) l0_1 (l0_1.length:Int) x26_1 l1_1 (l1_1.length:Int) (wrap64 (x34_2+1)) a0_0 l0_1 a1_0 l1_1)=some (r1,r2):=ry hy162 H;have Ny162:=Aside0.mk hy162;clear hy162;have H':=Aside0.mk H;clear H;have p160:0≤(x34_2:Int):=oda;have q160:x34_2<(l1_1.length:Int):=oda;obtain⟨ad160,e160,hx160_0⟩:=Kd.at_int HR1_1.out x34_2 p160 q160;cases e160;replace hx160_0:=(HB.out.cell (World.block_lt_of_cell? w _ hx160_0)).trans hx160_0;replace p160:=eq_true p160;replace q160:=eq_true q160;obtain⟨Ao30,co30,eo30⟩:=Kd.R_slice HO_5.out;subst eo30;have p161:0≤((ji26):Int):=oda;have q161:(ji26)<(x5_2.length:Int):=oda;obtain⟨ad161,e161,hx161_0⟩:=Kd.at_int (Kd.R_reads' HO_5.out).2.2 (ji26) p161 q161;cases e161;replace p161:=eq_true p161;replace q161:=eq_true q161;have p29:0≤((ji26):Int):=oda;have q29:((ji26):Int)<((x5_2.length:Int):Int):=oda;obtain⟨go29,co29,eo29,gb29,gl29,cl29,HG29⟩:=Kd.R_form HO_5.out (by omega);(first|cases eo29|(injection eo29 with ea_ en_ ec_;(first|subst ea_|(injection ea_ with ea_;subst ea_));subst ec_;clear en_))
         have GB29:=Aside0.mk gb29;have GG29:=Aside0.mk HG29;clear gb29 gl29 HG29;(first|simp only [add_plain]at hx161_0|skip)
         obtain⟨hx29_0,hf29_0⟩:=Kd.R_celln 0 HO_5.out ((ji26):Int) p29 q29;replace p29:=eq_true p29;replace q29:=eq_true q29;have HP31:=Kd.R_putg HO_5.out ((ji26):Int) ((Int.tmod (IntKind.u64.wrap ((IntKind.u64.wrap ((IntKind.u64.wrap ((IntKind.u64.wrap ((rd l0_1 x26_1)))*(IntKind.u64.wrap (rd l1_1 x34_2))))+(IntKind.u64.wrap (rd x5_2 (ji26)))))+x8_2)) 1000000000)%4294967296);go_wp2_with (first|((with_reducible refine gate_store (t:=95) (p:=61) rfl ?_);refine store_event (t:=95) (p:=61) (v:=?vo_w32) (w1:=(wr.setCell ⟨go29,((ji26):Int).toNat,none⟩ (.int .u32 ((Int.tmod (IntKind.u64.wrap ((IntKind.u64.wrap ((IntKind.u64.wrap ((IntKind.u64.wrap ((rd l0_1 x26_1)))*(IntKind.u64.wrap (rd l1_1 x34_2))))+(IntKind.u64.wrap (rd x5_2 (ji26)))))+x8_2)) 1000000000)%4294967296)))) ?hg ?ho ?hn ?hr ?_;(case ho=>rfl);(case hg=>rfl);(case hn=>rfl);(case hr=>first|(go_simp;done)|(go_simp;rfl));intro w32 hw;have hg:wr.grownBy w32 (some go29):=(by rw [hw];exact HP31.2);have hp_:Kd.R (Kd.int .u32) 95 w32 w.heap.size (fun k_=>(w.heap.size≤k_)) (.slice (some ⟨go29,0,none⟩) x5_2.length co30) y162:=(by rw [hw,Ny162.out];exact HP31.1);clear HP31;have n0_:=Aside0.mk (hp_);have n1_:=Aside0.mk (blk_grown (g:=gb153) (o:=.cells #[.bool a0_0,.slice (some ad159) l0_1.length c0_1] 50 (0,0)) (rbk BK153.out) hg (Kd.R_ne HO_5.out BK153.out (by decide)));have n2_:=Aside0.mk (blk_grown (g:=gb154) (o:=.cells #[.bool a1_0,.slice (some ad160) l1_1.length c1_1] 50 (0,0)) (rbk BK154.out) hg (Kd.R_ne HO_5.out BK154.out (by decide)));have n3_:=Aside0.mk (blk_grown (g:=gb155) (o:=.cells #[.bool false,.slice none 0 0] 50 (0,0)) (rbk BK155.out) hg (Kd.R_ne HO_5.out BK155.out (by decide)));have n4_:=Aside0.mk ((by rw [hw];exact below_set (HB.out) GB29.out:Below w.heap.size w w32));clear HO_5;clear BK153;clear BK154;clear BK155;clear HB;have HO_5:=n0_;have BK153:=n1_;have BK154:=n2_;have BK155:=n3_;have HB:=n4_;clear n0_ n1_ n2_ n3_ n4_;clear hg hw hp_))
         go_roundg k2
         case measure=>have:=HK1.out;have:=HK2.out;omega
         case rel=>exact ⟨(y162),(IntKind.u64.wrap (Int.tdiv (IntKind.u64.wrap ((IntKind.u64.wrap ((IntKind.u64.wrap ((IntKind.u64.wrap ((rd l0_1 x26_1)))*(IntKind.u64.wrap (rd l1_1 x34_2))))+(IntKind.u64.wrap (rd x5_2 (ji26)))))+x8_2)) 1000000000)),(wrap64 (x34_2+1)),(by first|rfl|(simp;done)|(simp only [←hji26] <;> (first|rfl|simp))|(simp [*];done)),pr1,H',⟨by have:=HK1.out;have:=HK2.out;omega⟩,⟨rq HO_5.out⟩,⟨rbk BK153.out⟩,⟨rbk BK154.out⟩,⟨rbk BK155.out⟩,⟨by repeat (first|(with_reducible first|exact HB.out|apply below_alloc|apply pw_below_drewN|apply below_drew1|refine below_set ?_ GE153.out|refine below_set ?_ GE154.out|refine below_set ?_ GE155.out)|exact HB.out)⟩⟩
       · rw [if_neg c23]at H;have c23b0:=decide_eq_false c23;clear c23;have H':=Aside0.mk H;clear H;have hnb33:=NB154_153.out;have hnc33:=NB153_154.out;have hnb34:=NB154_155.out;have hnc34:=NB155_154.out;have hcz35_0:wr.cell? ⟨gb154,0,none⟩=some (.bool a1_0):=(blk_cell BK154.out 0).trans rfl;have hcz35_1:wr.cell? ⟨gb154,1,none⟩=some (.slice A1_1 l1_1.length c1_1):=(blk_cell BK154.out 1).trans rfl;have hfz35_0:=blk_frozen BK154.out 0;have hfz35_1:=blk_frozen BK154.out 1;go_wp2
         go_loopg [8,12] k2 (fun kq v8 v12 w'=>∃(x5_3:List Int) (x8_3:Int) (x12_3:Int),v8=.int .u64 x8_3∧v12=.int .i64 x12_3∧Aside0 (whole_Whole_Mul.l2 kq x5_3 x8_3 x12_3 l0_1 (l0_1.length:Int) x26_1 a0_0 l0_1 a1_0 l1_1=some (r1,r2))∧Aside0 (kq≤k2)∧Aside0 (Kd.R (Kd.int .u32) 95 w' w.heap.size (fun k_=>(w.heap.size≤k_)) v157 x5_3)∧Aside0 (w'.heap[gb153]?=some (.cells #[.bool a0_0,(.slice (some ad159) l0_1.length c0_1)] 50 (0,0)))∧Aside0 (w'.heap[gb154]?=some (.cells #[.bool a1_0,(.slice A1_1 l1_1.length c1_1)] 50 (0,0)))∧Aside0 (w'.heap[gb155]?=some (.cells #[.bool false,(.slice none 0 0)] 50 (0,0)))∧Aside0 (Below w.heap.size w w'))
         case atStart=>exact ⟨(x5_2),(x8_2),(wrap64 (x26_1+(l1_1.length:Int))),pr1,pr1,H',⟨Nat.le_refl _⟩,⟨rq HO_5.out⟩,⟨rbk BK153.out⟩,⟨rbk BK154.out⟩,⟨rbk BK155.out⟩,⟨by repeat (first|(with_reducible first|exact HB.out|apply below_alloc|apply pw_below_drewN|apply below_drew1|refine below_set ?_ GE153.out|refine below_set ?_ GE154.out|refine below_set ?_ GE155.out)|exact HB.out)⟩⟩
         case round =>
          clear H';try clear c1
          try clear p1
          try clear q1
          try clear hx1
          try clear c2
          try clear p2
          try clear q2
          try clear hx2
          try clear hf2
          try clear c3
          try clear c4
          try clear c4b0
          try clear c4b1
          try clear c5
          try clear c5b0
          try clear c5b1
          try clear p6
          try clear c9
          try clear c10
          try clear c12
          try clear p15
          try clear q15
          try clear hx15
          try clear p16
          try clear q16
          try clear hx16
          try clear c17
          try clear c17b0
          try clear c18
          try clear c18b0
          try clear c19
          try clear c19b0
          try clear c20
          try clear c21
          try clear c23
          try clear c23b0
          try clear c24
          try clear c24b0
          try clear c25
          try clear c25b0
          try clear c27
          try clear c27b0
          try clear c28
          try clear c28b0
          try clear p29
          try clear q29
          try clear hx29
          try clear hf29
          try clear c32
          try clear c33
          try clear c34
          try clear hcz11_0
          try clear hcz11_1
          try clear hcz13_0
          try clear hcz13_1
          try clear hcz16_0
          try clear hcz16_1
          try clear hcz22_0
          try clear hcz22_1
          try clear hcz35_0
          try clear hcz35_1
          try clear hfz11_0
          try clear hfz11_1
          try clear hfz13_0
          try clear hfz13_1
          try clear hfz16_0
          try clear hfz16_1
          try clear hfz22_0
          try clear hfz22_1
          try clear hfz35_0
          try clear hfz35_1
          try clear hx159_0
          try clear hx160_0
          try clear hx161_0
          try clear hx29_0
          try clear p1
          try clear p15
          try clear p159
          try clear p160
          try clear p161
          try clear p2
          try clear p29
          try clear p6
          try clear q1
          try clear q15
          try clear q159
          try clear q160
          try clear q161
          try clear q29
          obtain⟨x5_3,x8_3,x12_3,rfl,rfl,HA,HK3,HO_5,BK153,BK154,BK155,HB⟩:=hrel;cases gk with
          | zero=>exact absurd HA.out (by simp [whole_Whole_Mul.l2])
          | succ k3 =>
           have H:=HA.out;clear HA;simp only [whole_Whole_Mul.l2]at H;by_cases c36:x8_3>0
           · rw [if_pos c36]at H;have c36b0:=decide_eq_true c36;clear c36;replace H:=ifs H;obtain⟨c37,H⟩:=H;have c37b0:=decide_eq_true c37;clear c37;replace H:=ifs H;obtain⟨c38,H⟩:=H;have c38b0:=decide_eq_true c38;clear c38;obtain⟨y164,hy164⟩:∃y_:List Int,y_=(x5_3.set (x12_3:Int).toNat ((Int.tmod (IntKind.u64.wrap ((IntKind.u64.wrap (rd x5_3 x12_3))+x8_3)) 1000000000)%4294967296)):=⟨_,rfl⟩;replace H:(whole_Whole_Mul.l2 k3 y164 (IntKind.u64.wrap (Int.tdiv (IntKind.u64.wrap ((IntKind.u64.wrap (rd x5_3 x12_3))+x8_3)) 1000000000)) (wrap64 (x12_3+1)) l0_1 (l0_1.length:Int) x26_1 a0_0 l0_1 a1_0 l1_1)=some (r1,r2):=ry hy164 H;have Ny164:=Aside0.mk hy164;clear hy164;have H':=Aside0.mk H;clear H;obtain⟨Ao40,co40,eo40⟩:=Kd.R_slice HO_5.out;subst eo40;have p163:0≤(x12_3:Int):=oda;have q163:x12_3<(x5_3.length:Int):=oda;obtain⟨ad163,e163,hx163_0⟩:=Kd.at_int (Kd.R_reads' HO_5.out).2.2 x12_3 p163 q163;cases e163;replace p163:=eq_true p163;replace q163:=eq_true q163;have p39:0≤(x12_3:Int):=oda;have q39:(x12_3:Int)<((x5_3.length:Int):Int):=oda;obtain⟨go39,co39,eo39,gb39,gl39,cl39,HG39⟩:=Kd.R_form HO_5.out (by omega);(first|cases eo39|(injection eo39 with ea_ en_ ec_;(first|subst ea_|(injection ea_ with ea_;subst ea_));subst ec_;clear en_))
             have GB39:=Aside0.mk gb39;have GG39:=Aside0.mk HG39;clear gb39 gl39 HG39;(first|simp only [add_plain]at hx163_0|skip)
             obtain⟨hx39_0,hf39_0⟩:=Kd.R_celln 0 HO_5.out (x12_3:Int) p39 q39;replace p39:=eq_true p39;replace q39:=eq_true q39;have HP41:=Kd.R_putg HO_5.out (x12_3:Int) ((Int.tmod (IntKind.u64.wrap ((IntKind.u64.wrap (rd x5_3 x12_3))+x8_3)) 1000000000)%4294967296);go_wp2_with (first|((with_reducible refine gate_store (t:=95) (p:=86) rfl ?_);refine store_event (t:=95) (p:=86) (v:=?vo_w42) (w1:=(wr.setCell ⟨go39,(x12_3:Int).toNat,none⟩ (.int .u32 ((Int.tmod (IntKind.u64.wrap ((IntKind.u64.wrap (rd x5_3 x12_3))+x8_3)) 1000000000)%4294967296)))) ?hg ?ho ?hn ?hr ?_;(case ho=>rfl);(case hg=>rfl);(case hn=>rfl);(case hr=>first|(go_simp;done)|(go_simp;rfl));intro w42 hw;have hg:wr.grownBy w42 (some go39):=(by rw [hw];exact HP41.2);have hp_:Kd.R (Kd.int .u32) 95 w42 w.heap.size (fun k_=>(w.heap.size≤k_)) (.slice (some ⟨go39,0,none⟩) x5_3.length co40) y164:=(by rw [hw,Ny164.out];exact HP41.1);clear HP41;have n0_:=Aside0.mk (hp_);have n1_:=Aside0.mk (blk_grown (g:=gb153) (o:=.cells #[.bool a0_0,.slice (some ad159) l0_1.length c0_1] 50 (0,0)) (rbk BK153.out) hg (Kd.R_ne HO_5.out BK153.out (by decide)));have n2_:=Aside0.mk (blk_grown (g:=gb154) (o:=.cells #[.bool a1_0,.slice A1_1 l1_1.length c1_1] 50 (0,0)) (rbk BK154.out) hg (Kd.R_ne HO_5.out BK154.out (by decide)));have n3_:=Aside0.mk (blk_grown (g:=gb155) (o:=.cells #[.bool false,.slice none 0 0] 50 (0,0)) (rbk BK155.out) hg (Kd.R_ne HO_5.out BK155.out (by decide)));have n4_:=Aside0.mk ((by rw [hw];exact below_set (HB.out) GB39.out:Below w.heap.size w w42));clear HO_5;clear BK153;clear BK154;clear BK155;clear HB;have HO_5:=n0_;have BK153:=n1_;have BK154:=n2_;have BK155:=n3_;have HB:=n4_;clear n0_ n1_ n2_ n3_ n4_;clear hg hw hp_))
             go_roundg k3
             case measure=>have:=HK1.out;have:=HK2.out;have:=HK3.out;omega
             case rel=>exact ⟨(y164),(IntKind.u64.wrap (Int.tdiv (IntKind.u64.wrap ((IntKind.u64.wrap (rd x5_3 x12_3))+x8_3)) 1000000000)),(wrap64 (x12_3+1)),pr1,pr1,H',⟨by have:=HK1.out;have:=HK2.out;have:=HK3.out;omega⟩,⟨rq HO_5.out⟩,⟨rbk BK153.out⟩,⟨rbk BK154.out⟩,⟨rbk BK155.out⟩,⟨by repeat (first|(with_reducible first|exact HB.out|apply below_alloc|apply pw_below_drewN|apply below_drew1|refine below_set ?_ GE153.out|refine below_set ?_ GE154.out|refine below_set ?_ GE155.out)|exact HB.out)⟩⟩
           · rw [if_neg c36]at H;have c36b0:=decide_eq_false c36;clear c36;have H':=Aside0.mk H;clear H;go_wp2
             go_roundg k3
             case measure=>have:=HK1.out;have:=HK2.out;have:=HK3.out;omega
             case rel=>exact ⟨(x5_3),(wrap64 (x26_1+1)),pr1,H',⟨by have:=HK1.out;have:=HK2.out;have:=HK3.out;omega⟩,⟨rq HO_5.out⟩,⟨rbk BK153.out⟩,⟨rbk BK154.out⟩,⟨rbk BK155.out⟩,⟨by repeat (first|(with_reducible first|exact HB.out|apply below_alloc|apply pw_below_drewN|apply below_drew1|refine below_set ?_ GE153.out|refine below_set ?_ GE154.out|refine below_set ?_ GE155.out)|exact HB.out)⟩⟩
   · rw [if_neg c17]at H;have c17b0:=decide_eq_false c17;clear c17;replace H:=Option.bind_eq_some_iff.mp H;obtain⟨⟨t165,t166⟩,A430,H⟩:=H;replace H:(some (t165,t166))=some (r1,r2):=H;have A43:=Aside0.mk A430;clear A430;simp only [Option.some.injEq,Prod.mk.injEq]at H;obtain⟨rfl,rfl⟩:=H;have hnb44:=NB153_154.out;have hnc44:=NB154_153.out;have hnb45:=NB153_155.out;have hnc45:=NB155_153.out;have hcz46_0:wr.cell? ⟨gb153,0,none⟩=some (.bool a0_0):=(blk_cell BK153.out 0).trans rfl;have hcz46_1:wr.cell? ⟨gb153,1,none⟩=some (.slice A0_1 l0_1.length c0_1):=(blk_cell BK153.out 1).trans rfl;have hfz46_0:=blk_frozen BK153.out 0;have hfz46_1:=blk_frozen BK153.out 1;have hnb47:=NB154_155.out;have hnc47:=NB155_154.out;have hcz48_0:wr.cell? ⟨gb154,0,none⟩=some (.bool a1_0):=(blk_cell BK154.out 0).trans rfl;have hcz48_1:wr.cell? ⟨gb154,1,none⟩=some (.slice A1_1 l1_1.length c1_1):=(blk_cell BK154.out 1).trans rfl;have hfz48_0:=blk_frozen BK154.out 0;have hfz48_1:=blk_frozen BK154.out 1;obtain⟨Ao49,co49,eo49⟩:=Kd.R_slice HO_5.out;subst eo49;go_wp2_with (first|((with_reducible refine gate_callee (f:=112) rfl ?_);refine goesL_ (some 96) rfl rfl Tryz.func112 (by kernel_rfl) rfl #[.slice Ao49 x5_1.length co49,.bool (a0_0 !=a1_0)] rfl (by(try simp only [List.map_toArray,List.map_cons,List.map_nil]);first|done|rfl|(simp only [List.length_drop,List.length_take];rfl)) ?_;(with_reducible refine(whole_signed.calls k1 (fun k_=>some k_=(.slice Ao49 x5_1.length co49:Value).ownBlock) _ _ x5_1 (a0_0 !=a1_0) t165 t166 _ ?side1 A43.out).mono ?_);(case side1=>exact Kd.R_V (Kd.R_tight rfl (Kd.R_types (Kd.R_types (Kd.R_types (HO_5.out) BK153.out (by decide)) BK154.out (by decide)) BK155.out (by decide))));rintro e w50 ⟨v167,rfl,ho0,hb⟩;refine⟨_,rfl,?_⟩;have n0_:=Aside0.mk (Kd.R_below (rq HO_5.out) hb);have n1_:=Aside0.mk (Kd.V_lower (Kd.V_mono (ok':=fun k_=>(w.heap.size≤k_)∧k_≠gb153∧k_≠gb154∧k_≠gb155) ho0 (fun k_ hk_=>⟨Or.elim hk_ (fun hs_=>((Kd.R_types (Kd.R_types (Kd.R_types (HO_5.out) BK153.out (by decide)) BK154.out (by decide)) BK155.out (by decide)).1 k_ hs_.symm).1.1.1) (fun hn_=>(Nat.le_trans (below_size (by repeat (first|(with_reducible first|exact HB.out|apply below_alloc|apply pw_below_drewN|apply below_drew1|refine below_set ?_ GE153.out|refine below_set ?_ GE154.out|refine below_set ?_ GE155.out)|exact HB.out))) hn_)),Or.elim hk_ (fun hs_=>((Kd.R_types (Kd.R_types (Kd.R_types (HO_5.out) BK153.out (by decide)) BK154.out (by decide)) BK155.out (by decide)).1 k_ hs_.symm).1.1.2) (fun hn_=>(Kd.freshB (g:=gb153) (o:=.cells #[.bool a0_0,.slice A0_1 l0_1.length c0_1] 50 (0,0)) (rbk BK153.out) k_ hn_)),Or.elim hk_ (fun hs_=>((Kd.R_types (Kd.R_types (Kd.R_types (HO_5.out) BK153.out (by decide)) BK154.out (by decide)) BK155.out (by decide)).1 k_ hs_.symm).1.2) (fun hn_=>(Kd.freshB (g:=gb154) (o:=.cells #[.bool a1_0,.slice A1_1 l1_1.length c1_1] 50 (0,0)) (rbk BK154.out) k_ hn_)),Or.elim hk_ (fun hs_=>((Kd.R_types (Kd.R_types (Kd.R_types (HO_5.out) BK153.out (by decide)) BK154.out (by decide)) BK155.out (by decide)).1 k_ hs_.symm).2) (fun hn_=>(Kd.freshB (g:=gb155) (o:=.cells #[.bool false,.slice none 0 0] 50 (0,0)) (rbk BK155.out) k_ hn_))⟩)) (below_size (by repeat (first|(with_reducible first|exact HB.out|apply below_alloc|apply pw_below_drewN|apply below_drew1|refine below_set ?_ GE153.out|refine below_set ?_ GE154.out|refine below_set ?_ GE155.out)|exact HB.out))));have n2_:=Aside0.mk (blk_below (g:=gb153) (o:=.cells #[.bool a0_0,.slice A0_1 l0_1.length c0_1] 50 (0,0)) (rbk BK153.out) hb);have n3_:=Aside0.mk (blk_below (g:=gb154) (o:=.cells #[.bool a1_0,.slice A1_1 l1_1.length c1_1] 50 (0,0)) (rbk BK154.out) hb);have n4_:=Aside0.mk (blk_below (g:=gb155) (o:=.cells #[.bool false,.slice none 0 0] 50 (0,0)) (rbk BK155.out) hb);have n5_:=Aside0.mk (below_step (by repeat (first|(with_reducible first|exact HB.out|apply below_alloc|apply pw_below_drewN|apply below_drew1|refine below_set ?_ GE153.out|refine below_set ?_ GE154.out|refine below_set ?_ GE155.out)|exact HB.out)) hb);clear HO_5;clear BK153;clear BK154;clear BK155;clear HB;have HO_5:=n0_;have HO168:=n1_;have BK153:=n2_;have BK154:=n3_;have BK155:=n4_;have HB:=n5_;clear n0_ n1_ n2_ n3_ n4_ n5_;(try clear hb);(try clear hb2);(try clear hk);(try clear hi);(try clear ho0);have hcz51_0:w50.cell? ⟨gb155,0,none⟩=some (.bool false):=(blk_cell BK155.out 0).trans rfl;have hcz51_1:w50.cell? ⟨gb155,1,none⟩=some (.slice none 0 0):=(blk_cell BK155.out 1).trans rfl;have hfz51_0:=blk_frozen BK155.out 0;have hfz51_1:=blk_frozen BK155.out 1;obtain⟨Ao52,co52,eo52⟩:=Kd.V_slice HO168.out;subst eo52))
     refine bodyPost_ret (results_cell_row rfl _ _ gb155 50 #[.bool t165,.slice Ao52 t166.length co52] (0,0) _ rfl (by(with_reducible repeat (first|refine blk_drewN ?_ _|refine blk_drew ?_|refine blk_alloc ?_ _));refine blk_put (cs:= #[.bool t165,.slice none 0 0]) ?_ 1 _ pr1;(with_reducible repeat (first|refine blk_drewN ?_ _|refine blk_drew ?_|refine blk_alloc ?_ _));refine blk_put (cs:= #[.bool false,.slice none 0 0]) ?_ 0 _ pr1;(with_reducible repeat (first|refine blk_drewN ?_ _|refine blk_drew ?_|refine blk_alloc ?_ _));exact BK155.out) Tryz.underlying50 rfl (by kernel_rfl)) rfl ?_;exact⟨_,by first|rfl|(simp [errW_none,errW_some] <;> rfl)|(simp only [←hji3];first|rfl|(simp [errW_none,errW_some] <;> rfl))|(simp [*,errW_none,errW_some] <;> rfl),by (with_reducible repeat (first|apply Kd.V_alloc|apply Kd.V_drewN|apply Kd.V_drew));exact Kd.V_mono (Kd.V_far (p:=⟨gb155,1,none⟩) (Kd.V_far (p:=⟨gb155,0,none⟩) (Kd.V_mono HO168.out (fun k_ hk=>(⟨hk,hk.2.2.2⟩:_∧k_≠gb155))) (fun _ hk=>hk.2) (.bool t165)) (fun _ hk=>hk.2) (.slice Ao52 t166.length co52)) (fun _ hk=>hk.1.1),by repeat (first|(with_reducible first|exact HB.out|apply below_alloc|apply pw_below_drewN|apply below_drew1|refine below_set ?_ GE153.out|refine below_set ?_ GE154.out|refine below_set ?_ GE155.out)|exact HB.out)⟩
def whole_guess.f(l0:List Int)(l1:List Int):Option (Int):=if (l0.length:Int)<(l1.length:Int)then (some 0)else (if 0≤(wrap64 ((l1.length:Int)-1))then (if (wrap64 ((l1.length:Int)-1))<(l0.length:Int)then (if (l0.length:Int)>(l1.length:Int)then (if 0≤(l1.length:Int)then (if (l1.length:Int)<(l0.length:Int)then (if (wrap64 ((l1.length:Int)-1))<(l1.length:Int)then (if (IntKind.u64.wrap (rd l1 (wrap64 ((l1.length:Int)-1))))=0 then(none)else (some ((mn (IntKind.u64.wrap (Int.tdiv (IntKind.u64.wrap ((IntKind.u64.wrap (rd l0 (wrap64 ((l1.length:Int)-1))))+(IntKind.u64.wrap ((IntKind.u64.wrap (rd l0 (l1.length:Int)))*1000000000)))) (IntKind.u64.wrap (rd l1 (wrap64 ((l1.length:Int)-1)))))) 999999999)%4294967296)))else (none))else (none))else (none))else (if (wrap64 ((l1.length:Int)-1))<(l1.length:Int)then (if (IntKind.u64.wrap (rd l1 (wrap64 ((l1.length:Int)-1))))=0 then(none)else (some ((mn (IntKind.u64.wrap (Int.tdiv (IntKind.u64.wrap (rd l0 (wrap64 ((l1.length:Int)-1)))) (IntKind.u64.wrap (rd l1 (wrap64 ((l1.length:Int)-1)))))) 999999999)%4294967296)))else (none)))else (none))else (none))
theorem whole_guess.calls(A0:Option Addr)(c0:Nat)(l0:List Int)(A1:Option Addr)(c1:Nat)(l1:List Int)(r:Int)(w:World)(hr0:Kd.C (Kd.int .u32) w A0 l0.length l0)(hc0:l0.length≤c0)(hr1:Kd.C (Kd.int .u32) w A1 l1.length l1)(hc1:l1.length≤c1)(h:whole_guess.f l0 l1=some r) :
 Calls Tryz.prog 135 #[.slice A0 l0.length c0,.slice A1 l1.length c1] w fun e w'=>e=.returned (.int .u32 r)∧Below w.heap.size w w':=by
 have HR0:=Aside0.mk hr0
 have HC0:=Aside0.mk hc0
 clear hr0 hc0
 have HR1:=Aside0.mk hr1
 have HC1:=Aside0.mk hc1
 clear hr1 hc1
 have HB:=Aside0.mk (Below.refl w.heap.size w)
 have H:(if (l0.length:Int)<(l1.length:Int)then (some 0)else (if 0≤(wrap64 ((l1.length:Int)-1))then (if (wrap64 ((l1.length:Int)-1))<(l0.length:Int)then (if (l0.length:Int)>(l1.length:Int)then (if 0≤(l1.length:Int)then (if (l1.length:Int)<(l0.length:Int)then (if (wrap64 ((l1.length:Int)-1))<(l1.length:Int)then (if (IntKind.u64.wrap (rd l1 (wrap64 ((l1.length:Int)-1))))=0 then(none)else (some ((mn (IntKind.u64.wrap (Int.tdiv (IntKind.u64.wrap ((IntKind.u64.wrap (rd l0 (wrap64 ((l1.length:Int)-1))))+(IntKind.u64.wrap ((IntKind.u64.wrap (rd l0 (l1.length:Int)))*1000000000)))) (IntKind.u64.wrap (rd l1 (wrap64 ((l1.length:Int)-1)))))) 999999999)%4294967296)))else (none))else (none))else (none))else (if (wrap64 ((l1.length:Int)-1))<(l1.length:Int)then (if (IntKind.u64.wrap (rd l1 (wrap64 ((l1.length:Int)-1))))=0 then(none)else (some ((mn (IntKind.u64.wrap (Int.tdiv (IntKind.u64.wrap (rd l0 (wrap64 ((l1.length:Int)-1)))) (IntKind.u64.wrap (rd l1 (wrap64 ((l1.length:Int)-1)))))) 999999999)%4294967296)))else (none)))else (none))else (none)))=some r:=h
 clear h
 by_cases c3:(l0.length:Int)<(l1.length:Int)
 · rw [if_pos c3]at H;have c3b0:=decide_eq_true c3;have c3b1:decide (l0.length<l1.length)=true:=decide_eq_true (Int.ofNat_lt.mp c3);clear c3;obtain rfl:=Option.some.inj H;go_enter Tryz.func135,Tryz.ntmps135
   go_wp2
   go_ret
   exact⟨pr2,pb⟩
 · rw [if_neg c3]at H;have c3b0:=decide_eq_false c3;have c3b1:decide (l0.length<l1.length)=false:=decide_eq_false (fun h=>c3 (Int.ofNat_lt.mpr h));clear c3;obtain⟨ji4,hji4⟩:∃j_:Int,(wrap64 ((l1.length:Int)-1))=j_:=⟨_,rfl⟩;replace H:(if 0≤(ji4)then (if (ji4)<(l0.length:Int)then (if (l0.length:Int)>(l1.length:Int)then (if 0≤(l1.length:Int)then (if (l1.length:Int)<(l0.length:Int)then (if (ji4)<(l1.length:Int)then (if (IntKind.u64.wrap (rd l1 (ji4)))=0 then(none)else (some ((mn (IntKind.u64.wrap (Int.tdiv (IntKind.u64.wrap ((IntKind.u64.wrap (rd l0 (ji4)))+(IntKind.u64.wrap ((IntKind.u64.wrap (rd l0 (l1.length:Int)))*1000000000)))) (IntKind.u64.wrap (rd l1 (ji4))))) 999999999)%4294967296)))else (none))else (none))else (none))else (if (ji4)<(l1.length:Int)then (if (IntKind.u64.wrap (rd l1 (ji4)))=0 then(none)else (some ((mn (IntKind.u64.wrap (Int.tdiv (IntKind.u64.wrap (rd l0 (ji4))) (IntKind.u64.wrap (rd l1 (ji4))))) 999999999)%4294967296)))else (none)))else (none))else (none))=some r:=by first|(rw [hji4]at H;exact H)|(simp only [hji4]at H ⊢;exact H)
   have hji4w:(IntKind.i64.wrap ((l1.length:Int)-1))=ji4:=(i64_w _).trans hji4;replace H:=ifs H;obtain⟨c5,H⟩:=H;have c5b0:=decide_eq_true c5;clear c5;replace H:=ifs H;obtain⟨c6,H⟩:=H;have c6b0:=decide_eq_true c6;clear c6;by_cases c7:(l0.length:Int)>(l1.length:Int)
   · rw [if_pos c7]at H;have c7b0:=decide_eq_true c7;have c7b1:decide (l1.length<l0.length)=true:=decide_eq_true (Int.ofNat_lt.mp c7);clear c7;replace H:=ifs H;obtain⟨c8,H⟩:=H;have c8b0:=decide_eq_true c8;have c8b1:decide (0≤l1.length)=true:=decide_eq_true (by omega);clear c8;replace H:=ifs H;obtain⟨c9,H⟩:=H;have c9b0:=decide_eq_true c9;have c9b1:decide (l1.length<l0.length)=true:=decide_eq_true (Int.ofNat_lt.mp c9);clear c9;replace H:=ifs H;obtain⟨c10,H⟩:=H;have c10b0:=decide_eq_true c10;clear c10;by_cases c11:(IntKind.u64.wrap (rd l1 (ji4)))=0
     · rw [if_pos c11]at H;exact absurd H (by simp)
     · rw [if_neg c11]at H;have c11b0:((IntKind.u64.wrap (rd l1 (ji4)))==0)=false:=beq_eq_false_iff_ne.mpr c11;have c11b1:((IntKind.u64.wrap (rd l1 (ji4))) !=0)=true:=bne_iff_ne.mpr c11;obtain⟨ji12,hji12⟩:∃j_:Int,(mn (IntKind.u64.wrap (Int.tdiv (IntKind.u64.wrap ((IntKind.u64.wrap (rd l0 (ji4)))+(IntKind.u64.wrap ((IntKind.u64.wrap (rd l0 (l1.length:Int)))*1000000000)))) (IntKind.u64.wrap (rd l1 (ji4))))) 999999999)=j_:=⟨_,rfl⟩;replace H:(some ((ji12)%4294967296))=some r:=by first|(rw [hji12]at H;exact H)|(simp only [hji12]at H ⊢;exact H)
       have hji12_:(if 999999999<(IntKind.u64.wrap (Int.tdiv (IntKind.u64.wrap ((IntKind.u64.wrap (rd l0 (ji4)))+(IntKind.u64.wrap ((IntKind.u64.wrap (rd l0 (l1.length:Int)))*1000000000)))) (IntKind.u64.wrap (rd l1 (ji4)))))then 999999999 else(IntKind.u64.wrap (Int.tdiv (IntKind.u64.wrap ((IntKind.u64.wrap (rd l0 (ji4)))+(IntKind.u64.wrap ((IntKind.u64.wrap (rd l0 (l1.length:Int)))*1000000000)))) (IntKind.u64.wrap (rd l1 (ji4))))))=ji12:=hji12;obtain rfl:=Option.some.inj H;have p169:0≤((ji4):Int):=oda;have q169:(ji4)<(l0.length:Int):=oda;obtain⟨ad169,e169,hx169_0⟩:=Kd.at_int HR0.out (ji4) p169 q169;cases e169;replace p169:=eq_true p169;replace q169:=eq_true q169;have p170:0≤((l1.length:Int):Int):=oda;have q170:(l1.length:Int)<(l0.length:Int):=oda;obtain⟨ad170,e170,hx170_0⟩:=Kd.at_int HR0.out (l1.length:Int) p170 q170;obtain rfl:ad169=ad170:=(by injection e170);(try simp only [Go.IntWalk.toNatUp]at hx170_0)
       replace p170:=eq_true p170;replace q170:=eq_true q170;have p171:0≤((ji4):Int):=oda;have q171:(ji4)<(l1.length:Int):=oda;obtain⟨ad171,e171,hx171_0⟩:=Kd.at_int HR1.out (ji4) p171 q171;cases e171;replace p171:=eq_true p171;replace q171:=eq_true q171;go_enter Tryz.func135,Tryz.ntmps135
       go_wp2
       go_ret
       exact⟨by first|rfl|(simp [errW_none,errW_some] <;> rfl)|(simp only [←hji4,←hji12];first|rfl|(simp [errW_none,errW_some] <;> rfl))|(simp [*,errW_none,errW_some] <;> rfl),pb⟩
   · rw [if_neg c7]at H;have c7b0:=decide_eq_false c7;have c7b1:decide (l1.length<l0.length)=false:=decide_eq_false (fun h=>c7 (Int.ofNat_lt.mpr h));clear c7;replace H:=ifs H;obtain⟨c13,H⟩:=H;have c13b0:=decide_eq_true c13;clear c13;by_cases c14:(IntKind.u64.wrap (rd l1 (ji4)))=0
     · rw [if_pos c14]at H;exact absurd H (by simp)
     · rw [if_neg c14]at H;have c14b0:((IntKind.u64.wrap (rd l1 (ji4)))==0)=false:=beq_eq_false_iff_ne.mpr c14;have c14b1:((IntKind.u64.wrap (rd l1 (ji4))) !=0)=true:=bne_iff_ne.mpr c14;obtain⟨ji15,hji15⟩:∃j_:Int,(mn (IntKind.u64.wrap (Int.tdiv (IntKind.u64.wrap (rd l0 (ji4))) (IntKind.u64.wrap (rd l1 (ji4))))) 999999999)=j_:=⟨_,rfl⟩;replace H:(some ((ji15)%4294967296))=some r:=by first|(rw [hji15]at H;exact H)|(simp only [hji15]at H ⊢;exact H)
       have hji15_:(if 999999999<(IntKind.u64.wrap (Int.tdiv (IntKind.u64.wrap (rd l0 (ji4))) (IntKind.u64.wrap (rd l1 (ji4)))))then 999999999 else(IntKind.u64.wrap (Int.tdiv (IntKind.u64.wrap (rd l0 (ji4))) (IntKind.u64.wrap (rd l1 (ji4))))))=ji15:=hji15;obtain rfl:=Option.some.inj H;have p169:0≤((ji4):Int):=oda;have q169:(ji4)<(l0.length:Int):=oda;obtain⟨ad169,e169,hx169_0⟩:=Kd.at_int HR0.out (ji4) p169 q169;cases e169;replace p169:=eq_true p169;replace q169:=eq_true q169;have p172:0≤((ji4):Int):=oda;have q172:(ji4)<(l1.length:Int):=oda;obtain⟨ad172,e172,hx172_0⟩:=Kd.at_int HR1.out (ji4) p172 q172;cases e172;replace p172:=eq_true p172;replace q172:=eq_true q172;go_enter Tryz.func135,Tryz.ntmps135
       go_wp2
       go_ret
       exact⟨by first|rfl|(simp [errW_none,errW_some] <;> rfl)|(simp only [←hji4,←hji15];first|rfl|(simp [errW_none,errW_some] <;> rfl))|(simp [*,errW_none,errW_some] <;> rfl),pb⟩
end Go.Proofs.YtpdghgfbfmaplaaGreatDoor.PWhole
end
