/- Lemmas for RatLists. -/
import Derived.Test.YtpdghgfbfmaplaaGreatDoorQB
import Derived.Laws.StructEq
set_option maxRecDepth 100000
set_option maxHeartbeats 8000000
section
namespace Go.Proofs.YtpdghgfbfmaplaaGreatDoor.PWhole
open Go.RowKit Go.Proofs.YtpdghgfbfmaplaaGreatDoorW.PrintWords Go.Proofs.YtpdghgfbfmaplaaGreatDoorW.PrintLast Go.Proofs.YtpdghgfbfmaplaaGreatDoorW.PrintMore
attribute [local go_sem] max2_int min2_int max_two min_two max_three min_three max_four min_four   -- for this text's walks alone
set_option linter.unusedVariables false
set_option linter.unusedSimpArgs false
def errW:Option Int→Value
 | none=>.nilIface
 | some c=>.iface 0 (.int .i64 c)
theorem errW_none:errW none=.nilIface:=rfl
theorem errW_some(c:Int):errW (some c)=.iface 0 (.int .i64 c):=rfl
theorem info70:(Tryz.prog.info? 95).map (fun i=>(i.zero,i.size,i.bytes))=some (some (.int .u32 0),1,4):=by kernel_rfl
def whole_Of.l0:Nat→Int→Bool→List Int→Option (Bool×List Int)
 | 0,_,_,_=>none
 | k+1,x4,x103000,x103001=>if x4>0 then(if x103001.length<35184372088832 then(whole_Of.l0 k (IntKind.u64.wrap (Int.tdiv x4 1000000000)) x103000 (x103001++ [(Int.tmod x4 1000000000)%4294967296]))else (none))else (some (x103000,x103001))
def whole_Of.f(k:Nat)(a0:Int):Option (Bool×List Int):=if a0<0 then(whole_Of.l0 k (IntKind.u64.wrap (-(IntKind.u64.wrap (a0)))) (decide (a0<0)) ([]:List Int))else (whole_Of.l0 k (IntKind.u64.wrap (a0)) (decide (a0<0)) ([]:List Int))
theorem whole_Of.calls(k:Nat)(a0:Int)(r1:Bool)(r2:List Int)(w:World)(h:whole_Of.f k a0=some (r1,r2)) :
 Calls Tryz.prog 59 #[.int .i64 a0] w fun e w'=>∃v1_:Value,e=.returned (.agg #[.bool r1,v1_])∧Kd.R (Kd.int .u32) 95 w' w.heap.size (fun _=>True) v1_ r2∧Below w.heap.size w w':=by
 have hu50:=Tryz.underlying50
 have HB:=Aside0.mk (Below.refl w.heap.size w)
 have H:(if a0<0 then(whole_Of.l0 k (IntKind.u64.wrap (-(IntKind.u64.wrap (a0)))) (decide (a0<0)) ([]:List Int))else (whole_Of.l0 k (IntKind.u64.wrap (a0)) (decide (a0<0)) ([]:List Int)))=some (r1,r2):=h
 clear h
 by_cases c2:a0<0
 · rw [if_pos c2]at H;have c2b0:=decide_eq_true c2;clear c2;have H':=Aside0.mk H;clear H;go_enter Tryz.func59,Tryz.ntmps59
   go_wp2_with (first|((with_reducible refine gate_dst (N:=2) rfl ?_);refine box_event ?hg (N:=2) ?hd (cs:= #[.bool false,.slice none 0 0]) (t:=50) ?hr ?_;(case hd=>rfl);(case hg=>rfl);(case hr=>first|(go_simp;done)|(go_simp;rfl));intro gb101 hg w3 hbox hb;have n0_:=Aside0.mk (below_step pb hb);have n1_:=Aside0.mk (hbox);have n2_:=Aside0.mk ((by rw [hg];exact(below_size pb):w.heap.size≤gb101));have n3_:=Aside0.mk ((by rw [hg];exact(below_size pb):w.heap.size≤gb101));clear HB;have HB:=n0_;have BK101:=n1_;have GW101:=n2_;have GE101:=n3_;clear n0_ n1_ n2_ n3_;clear hb hbox hg)|((with_reducible refine gate_dst (N:=3) rfl ?_);refine box_event ?hg (N:=3) ?hd (cs:= #[.bool false,.slice none 0 0]) (t:=50) ?hr ?_;(case hd=>rfl);(case hg=>rfl);(case hr=>first|(go_simp;done)|(go_simp;rfl));intro gb102 hg w4 hbox hb;have n0_:=Aside0.mk (blk_below (g:=gb101) (o:=.cells #[.bool false,.slice none 0 0] 50 (0,0)) (rbk BK101.out) hb);have n1_:=Aside0.mk (below_step (by repeat (first|(with_reducible first|exact HB.out|apply below_alloc|apply pw_below_drewN|apply below_drew1|refine below_set ?_ GE101.out)|exact HB.out)) hb);have n2_:=Aside0.mk (hbox);have n3_:=Aside0.mk ((by rw [hg];exact(below_size (by repeat (first|(with_reducible first|exact HB.out|apply below_alloc|apply pw_below_drewN|apply below_drew1|refine below_set ?_ GE101.out)|exact HB.out))):w.heap.size≤gb102));have n4_:=Aside0.mk ((by rw [hg];exact(below_size (by repeat (first|(with_reducible first|exact HB.out|apply below_alloc|apply pw_below_drewN|apply below_drew1|refine below_set ?_ GE101.out)|exact HB.out))):w.heap.size≤gb102));have n5_:=Aside0.mk ((by rw [hg];exact Nat.ne_of_lt (blk_lt (g:=gb101) (o:=.cells #[.bool false,.slice none 0 0] 50 (0,0)) (rbk BK101.out)):gb101≠gb102));have n6_:=Aside0.mk ((by rw [hg];exact Nat.ne_of_gt (blk_lt (g:=gb101) (o:=.cells #[.bool false,.slice none 0 0] 50 (0,0)) (rbk BK101.out)):gb102≠gb101));clear BK101;clear HB;have BK101:=n0_;have HB:=n1_;have BK102:=n2_;have GW102:=n3_;have GE102:=n4_;have NB101_102:=n5_;have NB102_101:=n6_;clear n0_ n1_ n2_ n3_ n4_ n5_ n6_;clear hb hbox hg;have hnb5:=NB102_101.out;have hnc5:=NB101_102.out;have hcz6_0:w4.cell? ⟨gb102,0,none⟩=some (.bool false):=(blk_cell BK102.out 0).trans rfl;have hcz6_1:w4.cell? ⟨gb102,1,none⟩=some (.slice none 0 0):=(blk_cell BK102.out 1).trans rfl;have hfz6_0:=blk_frozen BK102.out 0;have hfz6_1:=blk_frozen BK102.out 1))
   go_loopg [4] k (fun kq v4 w'=>∃(x4_1:Int) (x103001_1:List Int) (u103001:Value),v4=.int .u64 x4_1∧Aside0 (whole_Of.l0 kq x4_1 (decide (a0<0)) x103001_1=some (r1,r2))∧Aside0 (kq≤k)∧Aside0 (Kd.R (Kd.int .u32) 95 w' w.heap.size (fun _=>True) u103001 x103001_1)∧Aside0 (w'.heap[gb101]?=some (.cells #[.bool false,(.slice none 0 0)] 50 (0,0)))∧Aside0 (w'.heap[gb102]?=some (.cells #[.bool (decide (a0<0)),u103001] 50 (0,0)))∧Aside0 (Below w.heap.size w w'))
   case atStart=>exact ⟨(IntKind.u64.wrap (-(IntKind.u64.wrap (a0)))),(([]:List Int)),(.slice none 0 0),pr1,H',⟨Nat.le_refl _⟩,⟨by first|exact Kd.R_nil _ _ _ _ _|exact Kd.N_nil _ _ _ _ _|exact Kd.V_nil _ _ _ _ _|exact Kd.Q_nil _ _ _ _ _|exact Kd.S_nil _ _ _ _ _⟩,⟨by (with_reducible repeat (first|refine blk_drewN ?_ _|refine blk_drew ?_|refine blk_alloc ?_ _));refine blk_far ?_ NB101_102.out _;(with_reducible repeat (first|refine blk_drewN ?_ _|refine blk_drew ?_|refine blk_alloc ?_ _));refine blk_far ?_ NB101_102.out _;(with_reducible repeat (first|refine blk_drewN ?_ _|refine blk_drew ?_|refine blk_alloc ?_ _));exact BK101.out⟩,⟨by (with_reducible repeat (first|refine blk_drewN ?_ _|refine blk_drew ?_|refine blk_alloc ?_ _));refine blk_put (cs:= #[.bool (decide (a0<0)),.slice none 0 0]) ?_ 1 _ pr1;(with_reducible repeat (first|refine blk_drewN ?_ _|refine blk_drew ?_|refine blk_alloc ?_ _));refine blk_put (cs:= #[.bool false,.slice none 0 0]) ?_ 0 _ pr1;(with_reducible repeat (first|refine blk_drewN ?_ _|refine blk_drew ?_|refine blk_alloc ?_ _));exact BK102.out⟩,⟨by repeat (first|(with_reducible first|exact HB.out|apply below_alloc|apply pw_below_drewN|apply below_drew1|refine below_set ?_ GE101.out|refine below_set ?_ GE102.out)|exact HB.out)⟩⟩
   case round =>
    clear H';try clear c2
    try clear c2b0
    try clear p2
    try clear c5
    try clear hcz6_0
    try clear hcz6_1
    try clear hfz6_0
    try clear hfz6_1
    obtain⟨x4_1,x103001_1,u103001,rfl,HA,HK1,HO_103001,BK101,BK102,HB⟩:=hrel;cases gk with
    | zero=>exact absurd HA.out (by simp [whole_Of.l0])
    | succ k1 =>
     have H:=HA.out;clear HA;simp only [whole_Of.l0]at H;by_cases c7:x4_1>0
     · rw [if_pos c7]at H;have c7b0:=decide_eq_true c7;clear c7;replace H:=ifs H;obtain⟨c8,H⟩:=H;have LMc8:=Aside0.mk c8;clear c8;obtain⟨y103,hy103⟩:∃y_:List Int,y_=(x103001_1++ [(Int.tmod x4_1 1000000000)%4294967296]):=⟨_,rfl⟩;replace H:(whole_Of.l0 k1 (IntKind.u64.wrap (Int.tdiv x4_1 1000000000)) (decide (a0<0)) y103)=some (r1,r2):=ry hy103 H;have Ny103:=Aside0.mk hy103;clear hy103;have H':=Aside0.mk H;clear H;have hnb9:=NB102_101.out;have hnc9:=NB101_102.out;have hcz10_0:wr.cell? ⟨gb102,0,none⟩=some (.bool (decide (a0<0))):=(blk_cell BK102.out 0).trans rfl;have hcz10_1:wr.cell? ⟨gb102,1,none⟩=some (u103001):=(blk_cell BK102.out 1).trans rfl;have hfz10_0:=blk_frozen BK102.out 0;have hfz10_1:=blk_frozen BK102.out 1;go_wp2_with (first|((with_reducible refine gate_builtin (b:=.append) (xs:= #[.tmp 19,.tmp 23]) rfl ?_);at_builtin;refine Kd.R_append (Kd.int .u32) (w0:=w) w.heap.size rfl (.tmp 19) (.tmp 23) 48 95 (.int .u32 0) 4 rfl Tryz.underlying48 info70 rfl (by decide) (by omega) u103001 x103001_1 ((Int.tmod x4_1 1000000000)%4294967296) [.int .u32 ((Int.tmod x4_1 1000000000)%4294967296)] (fun _=>True) (fun _=>False) rfl rfl ?aP (fun _ hk=>hk.elim) ?aF ?aO ?aB ?aS ?aL ?_;(case aP=>exact rfl);(case aB=>exact (by repeat (first|(with_reducible first|exact HB.out|apply below_alloc|apply pw_below_drewN|apply below_drew1|refine below_set ?_ GE101.out|refine below_set ?_ GE102.out)|exact HB.out)));(case aF=>exact (fun _ _=>trivial));(case aO=>exact (rq HO_103001.out));(case aS=>exact (below_size (by repeat (first|(with_reducible first|exact HB.out|apply below_alloc|apply pw_below_drewN|apply below_drew1|refine below_set ?_ GE101.out|refine below_set ?_ GE102.out)|exact HB.out))));(case aL=>have:=LMc8.out;omega);intro v104 w11 ho hb hg hat;rw [←Ny103.out]at ho;have n0_:=Aside0.mk (blk_grown (g:=gb101) (o:=.cells #[.bool false,.slice none 0 0] 50 (0,0)) (rbk BK101.out) hg (Kd.R_ne HO_103001.out BK101.out (by decide)));have n1_:=Aside0.mk (blk_grown (g:=gb102) (o:=.cells #[.bool (decide (a0<0)),u103001] 50 (0,0)) (rbk BK102.out) hg (Kd.R_ne HO_103001.out BK102.out (by decide)));have n2_:=Aside0.mk (hb);have n3_:=Aside0.mk (ho);clear BK101;clear BK102;clear HB;clear HO_103001;have BK101:=n0_;have BK102:=n1_;have HB:=n2_;have HO105:=n3_;clear n0_ n1_ n2_ n3_;clear ho hb hg hat;obtain⟨Ao12,co12,eo12⟩:=Kd.R_slice HO105.out;subst eo12;have hcz13_0:w11.cell? ⟨gb102,0,none⟩=some (.bool (decide (a0<0))):=(blk_cell BK102.out 0).trans rfl;have hcz13_1:w11.cell? ⟨gb102,1,none⟩=some (u103001):=(blk_cell BK102.out 1).trans rfl;have hfz13_0:=blk_frozen BK102.out 0;have hfz13_1:=blk_frozen BK102.out 1))
       go_roundg k1
       case measure=>have:=HK1.out;omega
       case rel=>exact ⟨(IntKind.u64.wrap (Int.tdiv x4_1 1000000000)),(y103),(.slice Ao12 y103.length co12),pr1,H',⟨by have:=HK1.out;omega⟩,⟨by (with_reducible repeat (first|apply Kd.R_alloc|apply Kd.R_drewN|apply Kd.R_drew));exact Kd.R_mono (Kd.R_far (p:=⟨gb102,1,none⟩) (Kd.R_types HO105.out BK102.out (by decide)) (fun _ hk=>hk.2) (.slice Ao12 y103.length co12)) (fun _ hk=>trivial)⟩,⟨by (with_reducible repeat (first|refine blk_drewN ?_ _|refine blk_drew ?_|refine blk_alloc ?_ _));refine blk_far ?_ NB101_102.out _;(with_reducible repeat (first|refine blk_drewN ?_ _|refine blk_drew ?_|refine blk_alloc ?_ _));exact BK101.out⟩,⟨by (with_reducible repeat (first|refine blk_drewN ?_ _|refine blk_drew ?_|refine blk_alloc ?_ _));refine blk_put (cs:= #[.bool (decide (a0<0)),u103001]) ?_ 1 _ pr1;(with_reducible repeat (first|refine blk_drewN ?_ _|refine blk_drew ?_|refine blk_alloc ?_ _));exact BK102.out⟩,⟨by repeat (first|(with_reducible first|exact HB.out|apply below_alloc|apply pw_below_drewN|apply below_drew1|refine below_set ?_ GE101.out|refine below_set ?_ GE102.out)|exact HB.out)⟩⟩
     · rw [if_neg c7]at H;have c7b0:=decide_eq_false c7;clear c7;simp only [Option.some.injEq,Prod.mk.injEq]at H;obtain⟨rfl,rfl⟩:=H;have hnb14:=NB102_101.out;have hnc14:=NB101_102.out;have hcz15_0:wr.cell? ⟨gb102,0,none⟩=some (.bool (decide (a0<0))):=(blk_cell BK102.out 0).trans rfl;have hcz15_1:wr.cell? ⟨gb102,1,none⟩=some (u103001):=(blk_cell BK102.out 1).trans rfl;have hfz15_0:=blk_frozen BK102.out 0;have hfz15_1:=blk_frozen BK102.out 1;have hcz16_0:wr.cell? ⟨gb101,0,none⟩=some (.bool false):=(blk_cell BK101.out 0).trans rfl;have hcz16_1:wr.cell? ⟨gb101,1,none⟩=some (.slice none 0 0):=(blk_cell BK101.out 1).trans rfl;have hfz16_0:=blk_frozen BK101.out 0;have hfz16_1:=blk_frozen BK101.out 1;obtain⟨Ao17,co17,eo17⟩:=Kd.R_slice HO_103001.out;subst eo17;go_wp2
       refine bodyPost_ret (results_cell_row rfl _ _ gb101 50 #[.bool (decide (a0<0)),.slice Ao17 x103001_1.length co17] (0,0) _ rfl (by(with_reducible repeat (first|refine blk_drewN ?_ _|refine blk_drew ?_|refine blk_alloc ?_ _));refine blk_put (cs:= #[.bool (decide (a0<0)),.slice none 0 0]) ?_ 1 _ pr1;(with_reducible repeat (first|refine blk_drewN ?_ _|refine blk_drew ?_|refine blk_alloc ?_ _));refine blk_put (cs:= #[.bool false,.slice none 0 0]) ?_ 0 _ pr1;(with_reducible repeat (first|refine blk_drewN ?_ _|refine blk_drew ?_|refine blk_alloc ?_ _));exact BK101.out) Tryz.underlying50 rfl (by kernel_rfl)) rfl ?_;exact⟨_,pr2,by (with_reducible repeat (first|apply Kd.R_alloc|apply Kd.R_drewN|apply Kd.R_drew));exact Kd.R_mono (Kd.R_far (p:=⟨gb101,1,none⟩) (Kd.R_far (p:=⟨gb101,0,none⟩) (Kd.R_types HO_103001.out BK101.out (by decide)) (fun _ hk=>hk.2) _) (fun _ hk=>hk.2) (.slice Ao17 x103001_1.length co17)) (fun _ hk=>trivial),by repeat (first|(with_reducible first|exact HB.out|apply below_alloc|apply pw_below_drewN|apply below_drew1|refine below_set ?_ GE101.out|refine below_set ?_ GE102.out)|exact HB.out)⟩
 · rw [if_neg c2]at H;have c2b0:=decide_eq_false c2;clear c2;have H':=Aside0.mk H;clear H;go_enter Tryz.func59,Tryz.ntmps59
   go_wp2_with (first|((with_reducible refine gate_dst (N:=2) rfl ?_);refine box_event ?hg (N:=2) ?hd (cs:= #[.bool false,.slice none 0 0]) (t:=50) ?hr ?_;(case hd=>rfl);(case hg=>rfl);(case hr=>first|(go_simp;done)|(go_simp;rfl));intro gb101 hg w18 hbox hb;have n0_:=Aside0.mk (below_step pb hb);have n1_:=Aside0.mk (hbox);have n2_:=Aside0.mk ((by rw [hg];exact(below_size pb):w.heap.size≤gb101));have n3_:=Aside0.mk ((by rw [hg];exact(below_size pb):w.heap.size≤gb101));clear HB;have HB:=n0_;have BK101:=n1_;have GW101:=n2_;have GE101:=n3_;clear n0_ n1_ n2_ n3_;clear hb hbox hg)|((with_reducible refine gate_dst (N:=3) rfl ?_);refine box_event ?hg (N:=3) ?hd (cs:= #[.bool false,.slice none 0 0]) (t:=50) ?hr ?_;(case hd=>rfl);(case hg=>rfl);(case hr=>first|(go_simp;done)|(go_simp;rfl));intro gb102 hg w19 hbox hb;have n0_:=Aside0.mk (blk_below (g:=gb101) (o:=.cells #[.bool false,.slice none 0 0] 50 (0,0)) (rbk BK101.out) hb);have n1_:=Aside0.mk (below_step (by repeat (first|(with_reducible first|exact HB.out|apply below_alloc|apply pw_below_drewN|apply below_drew1|refine below_set ?_ GE101.out)|exact HB.out)) hb);have n2_:=Aside0.mk (hbox);have n3_:=Aside0.mk ((by rw [hg];exact(below_size (by repeat (first|(with_reducible first|exact HB.out|apply below_alloc|apply pw_below_drewN|apply below_drew1|refine below_set ?_ GE101.out)|exact HB.out))):w.heap.size≤gb102));have n4_:=Aside0.mk ((by rw [hg];exact(below_size (by repeat (first|(with_reducible first|exact HB.out|apply below_alloc|apply pw_below_drewN|apply below_drew1|refine below_set ?_ GE101.out)|exact HB.out))):w.heap.size≤gb102));have n5_:=Aside0.mk ((by rw [hg];exact Nat.ne_of_lt (blk_lt (g:=gb101) (o:=.cells #[.bool false,.slice none 0 0] 50 (0,0)) (rbk BK101.out)):gb101≠gb102));have n6_:=Aside0.mk ((by rw [hg];exact Nat.ne_of_gt (blk_lt (g:=gb101) (o:=.cells #[.bool false,.slice none 0 0] 50 (0,0)) (rbk BK101.out)):gb102≠gb101));clear BK101;clear HB;have BK101:=n0_;have HB:=n1_;have BK102:=n2_;have GW102:=n3_;have GE102:=n4_;have NB101_102:=n5_;have NB102_101:=n6_;clear n0_ n1_ n2_ n3_ n4_ n5_ n6_;clear hb hbox hg;have hnb20:=NB102_101.out;have hnc20:=NB101_102.out;have hcz21_0:w19.cell? ⟨gb102,0,none⟩=some (.bool false):=(blk_cell BK102.out 0).trans rfl;have hcz21_1:w19.cell? ⟨gb102,1,none⟩=some (.slice none 0 0):=(blk_cell BK102.out 1).trans rfl;have hfz21_0:=blk_frozen BK102.out 0;have hfz21_1:=blk_frozen BK102.out 1))
   go_loopg [4] k (fun kq v4 w'=>∃(x4_1:Int) (x103001_1:List Int) (u103001:Value),v4=.int .u64 x4_1∧Aside0 (whole_Of.l0 kq x4_1 (decide (a0<0)) x103001_1=some (r1,r2))∧Aside0 (kq≤k)∧Aside0 (Kd.R (Kd.int .u32) 95 w' w.heap.size (fun _=>True) u103001 x103001_1)∧Aside0 (w'.heap[gb101]?=some (.cells #[.bool false,(.slice none 0 0)] 50 (0,0)))∧Aside0 (w'.heap[gb102]?=some (.cells #[.bool (decide (a0<0)),u103001] 50 (0,0)))∧Aside0 (Below w.heap.size w w'))
   case atStart=>exact ⟨(IntKind.u64.wrap (a0)),(([]:List Int)),(.slice none 0 0),pr1,H',⟨Nat.le_refl _⟩,⟨by first|exact Kd.R_nil _ _ _ _ _|exact Kd.N_nil _ _ _ _ _|exact Kd.V_nil _ _ _ _ _|exact Kd.Q_nil _ _ _ _ _|exact Kd.S_nil _ _ _ _ _⟩,⟨by (with_reducible repeat (first|refine blk_drewN ?_ _|refine blk_drew ?_|refine blk_alloc ?_ _));refine blk_far ?_ NB101_102.out _;(with_reducible repeat (first|refine blk_drewN ?_ _|refine blk_drew ?_|refine blk_alloc ?_ _));refine blk_far ?_ NB101_102.out _;(with_reducible repeat (first|refine blk_drewN ?_ _|refine blk_drew ?_|refine blk_alloc ?_ _));exact BK101.out⟩,⟨by (with_reducible repeat (first|refine blk_drewN ?_ _|refine blk_drew ?_|refine blk_alloc ?_ _));refine blk_put (cs:= #[.bool (decide (a0<0)),.slice none 0 0]) ?_ 1 _ pr1;(with_reducible repeat (first|refine blk_drewN ?_ _|refine blk_drew ?_|refine blk_alloc ?_ _));refine blk_put (cs:= #[.bool false,.slice none 0 0]) ?_ 0 _ pr1;(with_reducible repeat (first|refine blk_drewN ?_ _|refine blk_drew ?_|refine blk_alloc ?_ _));exact BK102.out⟩,⟨by repeat (first|(with_reducible first|exact HB.out|apply below_alloc|apply pw_below_drewN|apply below_drew1|refine below_set ?_ GE101.out|refine below_set ?_ GE102.out)|exact HB.out)⟩⟩
   case round =>
    clear H';try clear c1
    try clear c2
    try clear c2b0
    try clear p2
    try clear c5
    try clear c7
    try clear c7b0
    try clear c8
    try clear c9
    try clear c14
    try clear c20
    try clear hcz10_0
    try clear hcz10_1
    try clear hcz13_0
    try clear hcz13_1
    try clear hcz15_0
    try clear hcz15_1
    try clear hcz16_0
    try clear hcz16_1
    try clear hcz21_0
    try clear hcz21_1
    try clear hcz6_0
    try clear hcz6_1
    try clear hfz10_0
    try clear hfz10_1
    try clear hfz13_0
    try clear hfz13_1
    try clear hfz15_0
    try clear hfz15_1
    try clear hfz16_0
    try clear hfz16_1
    try clear hfz21_0
    try clear hfz21_1
    try clear hfz6_0
    try clear hfz6_1
    try clear p2
    obtain⟨x4_1,x103001_1,u103001,rfl,HA,HK1,HO_103001,BK101,BK102,HB⟩:=hrel;cases gk with
    | zero=>exact absurd HA.out (by simp [whole_Of.l0])
    | succ k1 =>
     have H:=HA.out;clear HA;simp only [whole_Of.l0]at H;by_cases c22:x4_1>0
     · rw [if_pos c22]at H;have c22b0:=decide_eq_true c22;clear c22;replace H:=ifs H;obtain⟨c23,H⟩:=H;have LMc23:=Aside0.mk c23;clear c23;obtain⟨y103,hy103⟩:∃y_:List Int,y_=(x103001_1++ [(Int.tmod x4_1 1000000000)%4294967296]):=⟨_,rfl⟩;replace H:(whole_Of.l0 k1 (IntKind.u64.wrap (Int.tdiv x4_1 1000000000)) (decide (a0<0)) y103)=some (r1,r2):=ry hy103 H;have Ny103:=Aside0.mk hy103;clear hy103;have H':=Aside0.mk H;clear H;have hnb24:=NB102_101.out;have hnc24:=NB101_102.out;have hcz25_0:wr.cell? ⟨gb102,0,none⟩=some (.bool (decide (a0<0))):=(blk_cell BK102.out 0).trans rfl;have hcz25_1:wr.cell? ⟨gb102,1,none⟩=some (u103001):=(blk_cell BK102.out 1).trans rfl;have hfz25_0:=blk_frozen BK102.out 0;have hfz25_1:=blk_frozen BK102.out 1;go_wp2_with (first|((with_reducible refine gate_builtin (b:=.append) (xs:= #[.tmp 19,.tmp 23]) rfl ?_);at_builtin;refine Kd.R_append (Kd.int .u32) (w0:=w) w.heap.size rfl (.tmp 19) (.tmp 23) 48 95 (.int .u32 0) 4 rfl Tryz.underlying48 info70 rfl (by decide) (by omega) u103001 x103001_1 ((Int.tmod x4_1 1000000000)%4294967296) [.int .u32 ((Int.tmod x4_1 1000000000)%4294967296)] (fun _=>True) (fun _=>False) rfl rfl ?aP (fun _ hk=>hk.elim) ?aF ?aO ?aB ?aS ?aL ?_;(case aP=>exact rfl);(case aB=>exact (by repeat (first|(with_reducible first|exact HB.out|apply below_alloc|apply pw_below_drewN|apply below_drew1|refine below_set ?_ GE101.out|refine below_set ?_ GE102.out)|exact HB.out)));(case aF=>exact (fun _ _=>trivial));(case aO=>exact (rq HO_103001.out));(case aS=>exact (below_size (by repeat (first|(with_reducible first|exact HB.out|apply below_alloc|apply pw_below_drewN|apply below_drew1|refine below_set ?_ GE101.out|refine below_set ?_ GE102.out)|exact HB.out))));(case aL=>have:=LMc23.out;omega);intro v104 w26 ho hb hg hat;rw [←Ny103.out]at ho;have n0_:=Aside0.mk (blk_grown (g:=gb101) (o:=.cells #[.bool false,.slice none 0 0] 50 (0,0)) (rbk BK101.out) hg (Kd.R_ne HO_103001.out BK101.out (by decide)));have n1_:=Aside0.mk (blk_grown (g:=gb102) (o:=.cells #[.bool (decide (a0<0)),u103001] 50 (0,0)) (rbk BK102.out) hg (Kd.R_ne HO_103001.out BK102.out (by decide)));have n2_:=Aside0.mk (hb);have n3_:=Aside0.mk (ho);clear BK101;clear BK102;clear HB;clear HO_103001;have BK101:=n0_;have BK102:=n1_;have HB:=n2_;have HO105:=n3_;clear n0_ n1_ n2_ n3_;clear ho hb hg hat;obtain⟨Ao27,co27,eo27⟩:=Kd.R_slice HO105.out;subst eo27;have hcz28_0:w26.cell? ⟨gb102,0,none⟩=some (.bool (decide (a0<0))):=(blk_cell BK102.out 0).trans rfl;have hcz28_1:w26.cell? ⟨gb102,1,none⟩=some (u103001):=(blk_cell BK102.out 1).trans rfl;have hfz28_0:=blk_frozen BK102.out 0;have hfz28_1:=blk_frozen BK102.out 1))
       go_roundg k1
       case measure=>have:=HK1.out;omega
       case rel=>exact ⟨(IntKind.u64.wrap (Int.tdiv x4_1 1000000000)),(y103),(.slice Ao27 y103.length co27),pr1,H',⟨by have:=HK1.out;omega⟩,⟨by (with_reducible repeat (first|apply Kd.R_alloc|apply Kd.R_drewN|apply Kd.R_drew));exact Kd.R_mono (Kd.R_far (p:=⟨gb102,1,none⟩) (Kd.R_types HO105.out BK102.out (by decide)) (fun _ hk=>hk.2) (.slice Ao27 y103.length co27)) (fun _ hk=>trivial)⟩,⟨by (with_reducible repeat (first|refine blk_drewN ?_ _|refine blk_drew ?_|refine blk_alloc ?_ _));refine blk_far ?_ NB101_102.out _;(with_reducible repeat (first|refine blk_drewN ?_ _|refine blk_drew ?_|refine blk_alloc ?_ _));exact BK101.out⟩,⟨by (with_reducible repeat (first|refine blk_drewN ?_ _|refine blk_drew ?_|refine blk_alloc ?_ _));refine blk_put (cs:= #[.bool (decide (a0<0)),u103001]) ?_ 1 _ pr1;(with_reducible repeat (first|refine blk_drewN ?_ _|refine blk_drew ?_|refine blk_alloc ?_ _));exact BK102.out⟩,⟨by repeat (first|(with_reducible first|exact HB.out|apply below_alloc|apply pw_below_drewN|apply below_drew1|refine below_set ?_ GE101.out|refine below_set ?_ GE102.out)|exact HB.out)⟩⟩
     · rw [if_neg c22]at H;have c22b0:=decide_eq_false c22;clear c22;simp only [Option.some.injEq,Prod.mk.injEq]at H;obtain⟨rfl,rfl⟩:=H;have hnb29:=NB102_101.out;have hnc29:=NB101_102.out;have hcz30_0:wr.cell? ⟨gb102,0,none⟩=some (.bool (decide (a0<0))):=(blk_cell BK102.out 0).trans rfl;have hcz30_1:wr.cell? ⟨gb102,1,none⟩=some (u103001):=(blk_cell BK102.out 1).trans rfl;have hfz30_0:=blk_frozen BK102.out 0;have hfz30_1:=blk_frozen BK102.out 1;have hcz31_0:wr.cell? ⟨gb101,0,none⟩=some (.bool false):=(blk_cell BK101.out 0).trans rfl;have hcz31_1:wr.cell? ⟨gb101,1,none⟩=some (.slice none 0 0):=(blk_cell BK101.out 1).trans rfl;have hfz31_0:=blk_frozen BK101.out 0;have hfz31_1:=blk_frozen BK101.out 1;obtain⟨Ao32,co32,eo32⟩:=Kd.R_slice HO_103001.out;subst eo32;go_wp2
       refine bodyPost_ret (results_cell_row rfl _ _ gb101 50 #[.bool (decide (a0<0)),.slice Ao32 x103001_1.length co32] (0,0) _ rfl (by(with_reducible repeat (first|refine blk_drewN ?_ _|refine blk_drew ?_|refine blk_alloc ?_ _));refine blk_put (cs:= #[.bool (decide (a0<0)),.slice none 0 0]) ?_ 1 _ pr1;(with_reducible repeat (first|refine blk_drewN ?_ _|refine blk_drew ?_|refine blk_alloc ?_ _));refine blk_put (cs:= #[.bool false,.slice none 0 0]) ?_ 0 _ pr1;(with_reducible repeat (first|refine blk_drewN ?_ _|refine blk_drew ?_|refine blk_alloc ?_ _));exact BK101.out) Tryz.underlying50 rfl (by kernel_rfl)) rfl ?_;exact⟨_,pr2,by (with_reducible repeat (first|apply Kd.R_alloc|apply Kd.R_drewN|apply Kd.R_drew));exact Kd.R_mono (Kd.R_far (p:=⟨gb101,1,none⟩) (Kd.R_far (p:=⟨gb101,0,none⟩) (Kd.R_types HO_103001.out BK101.out (by decide)) (fun _ hk=>hk.2) _) (fun _ hk=>hk.2) (.slice Ao32 x103001_1.length co32)) (fun _ hk=>trivial),by repeat (first|(with_reducible first|exact HB.out|apply below_alloc|apply pw_below_drewN|apply below_drew1|refine below_set ?_ GE101.out|refine below_set ?_ GE102.out)|exact HB.out)⟩
def whole_Whole_Zero.f(a0_0:Bool)(l0_1:List Int):Option (Bool):=some ((l0_1.length:Int)==0)
theorem whole_Whole_Zero.calls(a0_0:Bool)(A0_1:Option Addr)(c0_1:Nat)(l0_1:List Int)(r:Bool)(w:World)(hr0_1:Kd.C (Kd.int .u32) w A0_1 l0_1.length l0_1)(hc0_1:l0_1.length≤c0_1)(h:whole_Whole_Zero.f a0_0 l0_1=some r) :
 Calls Tryz.prog 105 #[.agg #[.bool a0_0,.slice A0_1 l0_1.length c0_1]] w fun e w'=>e=.returned (.bool r)∧Below w.heap.size w w':=by
 have hu50:=Tryz.underlying50
 have HR0_1:=Aside0.mk hr0_1
 have HC0_1:=Aside0.mk hc0_1
 clear hr0_1 hc0_1
 have HB:=Aside0.mk (Below.refl w.heap.size w)
 have H:(some ((l0_1.length:Int)==0))=some r:=h
 clear h
 obtain rfl:=Option.some.inj H
 go_enter Tryz.func105,Tryz.ntmps105
 go_wp2_with (first|((with_reducible refine gate_dst (N:=1) rfl ?_);refine box_event ?hg (N:=1) ?hd (cs:= #[.bool a0_0,.slice A0_1 l0_1.length c0_1]) (t:=50) ?hr ?_;(case hd=>rfl);(case hg=>rfl);(case hr=>first|(go_simp;done)|(go_simp;rfl));intro gb106 hg w2 hbox hb;have n0_:=Aside0.mk (below_step pb hb);have n1_:=Aside0.mk (hbox);have n2_:=Aside0.mk ((by rw [hg];exact(below_size pb):w.heap.size≤gb106));have n3_:=Aside0.mk ((by rw [hg];exact(below_size pb):w.heap.size≤gb106));clear HB;have HB:=n0_;have BK106:=n1_;have GW106:=n2_;have GE106:=n3_;clear n0_ n1_ n2_ n3_;clear hb hbox hg;have hcz3_0:w2.cell? ⟨gb106,0,none⟩=some (.bool a0_0):=(blk_cell BK106.out 0).trans rfl;have hcz3_1:w2.cell? ⟨gb106,1,none⟩=some (.slice A0_1 l0_1.length c0_1):=(blk_cell BK106.out 1).trans rfl;have hfz3_0:=blk_frozen BK106.out 0;have hfz3_1:=blk_frozen BK106.out 1))
 go_ret
 exact⟨pr2,by repeat (first|(with_reducible first|exact HB.out|apply below_alloc|apply pw_below_drewN|apply below_drew1|refine below_set ?_ GE106.out)|exact HB.out)⟩
def whole_Whole_Sign.f(a0_0:Bool)(l0_1:List Int):Option (Int):=(whole_Whole_Zero.f a0_0 l0_1).bind fun t108=>(if t108=true then(some 0)else (if a0_0=true then(some (-1))else (some 1)))
theorem whole_Whole_Sign.calls(a0_0:Bool)(A0_1:Option Addr)(c0_1:Nat)(l0_1:List Int)(r:Int)(w:World)(hr0_1:Kd.C (Kd.int .u32) w A0_1 l0_1.length l0_1)(hc0_1:l0_1.length≤c0_1)(h:whole_Whole_Sign.f a0_0 l0_1=some r) :
 Calls Tryz.prog 90 #[.agg #[.bool a0_0,.slice A0_1 l0_1.length c0_1]] w fun e w'=>e=.returned (.int .i64 r)∧Below w.heap.size w w':=by
 have hu50:=Tryz.underlying50
 have HR0_1:=Aside0.mk hr0_1
 have HC0_1:=Aside0.mk hc0_1
 clear hr0_1 hc0_1
 have HB:=Aside0.mk (Below.refl w.heap.size w)
 have H:((whole_Whole_Zero.f a0_0 l0_1).bind fun t108=>(if t108=true then(some 0)else (if a0_0=true then(some (-1))else (some 1))))=some r:=h
 clear h
 replace H:=Option.bind_eq_some_iff.mp H
 obtain⟨t108,A20,H⟩:=H
 replace H:(if t108=true then(some 0)else (if a0_0=true then(some (-1))else (some 1)))=some r:=H
 have A2:=Aside0.mk A20
 clear A20
 by_cases c3:t108=true
 · subst c3;have H1:(some 0)=some r:=by rw [if_pos rfl]at H;exact H
   clear H;have H:=H1;clear H1;obtain rfl:=Option.some.inj H;go_enter Tryz.func90,Tryz.ntmps90
   go_wp2_with (first|((with_reducible refine gate_dst (N:=1) rfl ?_);refine box_event ?hg (N:=1) ?hd (cs:= #[.bool a0_0,.slice A0_1 l0_1.length c0_1]) (t:=50) ?hr ?_;(case hd=>rfl);(case hg=>rfl);(case hr=>first|(go_simp;done)|(go_simp;rfl));intro gb107 hg w4 hbox hb;have n0_:=Aside0.mk (below_step pb hb);have n1_:=Aside0.mk (hbox);have n2_:=Aside0.mk ((by rw [hg];exact(below_size pb):w.heap.size≤gb107));have n3_:=Aside0.mk ((by rw [hg];exact(below_size pb):w.heap.size≤gb107));clear HB;have HB:=n0_;have BK107:=n1_;have GW107:=n2_;have GE107:=n3_;clear n0_ n1_ n2_ n3_;clear hb hbox hg;have hcz5_0:w4.cell? ⟨gb107,0,none⟩=some (.bool a0_0):=(blk_cell BK107.out 0).trans rfl;have hcz5_1:w4.cell? ⟨gb107,1,none⟩=some (.slice A0_1 l0_1.length c0_1):=(blk_cell BK107.out 1).trans rfl;have hfz5_0:=blk_frozen BK107.out 0;have hfz5_1:=blk_frozen BK107.out 1)|((with_reducible refine gate_callee (f:=105) rfl ?_);refine goesL_ (some 5) rfl rfl Tryz.func105 (by kernel_rfl) rfl #[.agg #[.bool a0_0,.slice A0_1 l0_1.length c0_1]] rfl (by(try simp only [List.map_toArray,List.map_cons,List.map_nil]);first|done|rfl|(simp only [List.length_drop,List.length_take];rfl)) ?_;(with_reducible refine(whole_Whole_Zero.calls a0_0 _ _ l0_1 true _ ?side1 ?side2 A2.out).mono ?_);(case side1=>repeat (first|exact(Kd.C_below HR0_1.out HB.out)|(with_reducible refine Kd.C_alloc ?_ _)|(with_reducible refine Kd.C_drewN ?_ _)|(with_reducible refine Kd.C_drew ?_)));(case side2=>exact HC0_1.out);rintro e w6 ⟨rfl,hb⟩;refine⟨_,rfl,?_⟩;have n0_:=Aside0.mk (blk_below (g:=gb107) (o:=.cells #[.bool a0_0,.slice A0_1 l0_1.length c0_1] 50 (0,0)) (rbk BK107.out) hb);have n1_:=Aside0.mk (below_step (by repeat (first|(with_reducible first|exact HB.out|apply below_alloc|apply pw_below_drewN|apply below_drew1|refine below_set ?_ GE107.out)|exact HB.out)) hb);clear BK107;clear HB;have BK107:=n0_;have HB:=n1_;clear n0_ n1_;(try clear hb);(try clear hb2);(try clear hk);(try clear hi)))
   go_ret
   exact⟨pr2,by repeat (first|(with_reducible first|exact HB.out|apply below_alloc|apply pw_below_drewN|apply below_drew1|refine below_set ?_ GE107.out)|exact HB.out)⟩
 · replace c3:=Bool.eq_false_iff.mpr c3;subst c3;have H1:(if a0_0=true then(some (-1))else (some 1))=some r:=by rw [if_neg (show ¬(false=true) by decide)]at H;exact H
   clear H;have H:=H1;clear H1;by_cases c7:a0_0=true
   · subst c7;have H1:(some (-1))=some r:=by rw [if_pos rfl]at H;exact H
     clear H;have H:=H1;clear H1;obtain rfl:=Option.some.inj H;go_enter Tryz.func90,Tryz.ntmps90
     go_wp2_with (first|((with_reducible refine gate_dst (N:=1) rfl ?_);refine box_event ?hg (N:=1) ?hd (cs:= #[.bool true,.slice A0_1 l0_1.length c0_1]) (t:=50) ?hr ?_;(case hd=>rfl);(case hg=>rfl);(case hr=>first|(go_simp;done)|(go_simp;rfl));intro gb107 hg w8 hbox hb;have n0_:=Aside0.mk (below_step pb hb);have n1_:=Aside0.mk (hbox);have n2_:=Aside0.mk ((by rw [hg];exact(below_size pb):w.heap.size≤gb107));have n3_:=Aside0.mk ((by rw [hg];exact(below_size pb):w.heap.size≤gb107));clear HB;have HB:=n0_;have BK107:=n1_;have GW107:=n2_;have GE107:=n3_;clear n0_ n1_ n2_ n3_;clear hb hbox hg;have hcz9_0:w8.cell? ⟨gb107,0,none⟩=some (.bool true):=(blk_cell BK107.out 0).trans rfl;have hcz9_1:w8.cell? ⟨gb107,1,none⟩=some (.slice A0_1 l0_1.length c0_1):=(blk_cell BK107.out 1).trans rfl;have hfz9_0:=blk_frozen BK107.out 0;have hfz9_1:=blk_frozen BK107.out 1)|((with_reducible refine gate_callee (f:=105) rfl ?_);refine goesL_ (some 5) rfl rfl Tryz.func105 (by kernel_rfl) rfl #[.agg #[.bool true,.slice A0_1 l0_1.length c0_1]] rfl (by(try simp only [List.map_toArray,List.map_cons,List.map_nil]);first|done|rfl|(simp only [List.length_drop,List.length_take];rfl)) ?_;(with_reducible refine(whole_Whole_Zero.calls true _ _ l0_1 false _ ?side1 ?side2 A2.out).mono ?_);(case side1=>repeat (first|exact(Kd.C_below HR0_1.out HB.out)|(with_reducible refine Kd.C_alloc ?_ _)|(with_reducible refine Kd.C_drewN ?_ _)|(with_reducible refine Kd.C_drew ?_)));(case side2=>exact HC0_1.out);rintro e w10 ⟨rfl,hb⟩;refine⟨_,rfl,?_⟩;have n0_:=Aside0.mk (blk_below (g:=gb107) (o:=.cells #[.bool true,.slice A0_1 l0_1.length c0_1] 50 (0,0)) (rbk BK107.out) hb);have n1_:=Aside0.mk (below_step (by repeat (first|(with_reducible first|exact HB.out|apply below_alloc|apply pw_below_drewN|apply below_drew1|refine below_set ?_ GE107.out)|exact HB.out)) hb);clear BK107;clear HB;have BK107:=n0_;have HB:=n1_;clear n0_ n1_;(try clear hb);(try clear hb2);(try clear hk);(try clear hi);have hcz11_0:w10.cell? ⟨gb107,0,none⟩=some (.bool true):=(blk_cell BK107.out 0).trans rfl;have hcz11_1:w10.cell? ⟨gb107,1,none⟩=some (.slice A0_1 l0_1.length c0_1):=(blk_cell BK107.out 1).trans rfl;have hfz11_0:=blk_frozen BK107.out 0;have hfz11_1:=blk_frozen BK107.out 1))
     go_ret
     exact⟨pr2,by repeat (first|(with_reducible first|exact HB.out|apply below_alloc|apply pw_below_drewN|apply below_drew1|refine below_set ?_ GE107.out)|exact HB.out)⟩
   · replace c7:=Bool.eq_false_iff.mpr c7;subst c7;have H1:(some 1)=some r:=by rw [if_neg (show ¬(false=true) by decide)]at H;exact H
     clear H;have H:=H1;clear H1;obtain rfl:=Option.some.inj H;go_enter Tryz.func90,Tryz.ntmps90
     go_wp2_with (first|((with_reducible refine gate_dst (N:=1) rfl ?_);refine box_event ?hg (N:=1) ?hd (cs:= #[.bool false,.slice A0_1 l0_1.length c0_1]) (t:=50) ?hr ?_;(case hd=>rfl);(case hg=>rfl);(case hr=>first|(go_simp;done)|(go_simp;rfl));intro gb107 hg w12 hbox hb;have n0_:=Aside0.mk (below_step pb hb);have n1_:=Aside0.mk (hbox);have n2_:=Aside0.mk ((by rw [hg];exact(below_size pb):w.heap.size≤gb107));have n3_:=Aside0.mk ((by rw [hg];exact(below_size pb):w.heap.size≤gb107));clear HB;have HB:=n0_;have BK107:=n1_;have GW107:=n2_;have GE107:=n3_;clear n0_ n1_ n2_ n3_;clear hb hbox hg;have hcz13_0:w12.cell? ⟨gb107,0,none⟩=some (.bool false):=(blk_cell BK107.out 0).trans rfl;have hcz13_1:w12.cell? ⟨gb107,1,none⟩=some (.slice A0_1 l0_1.length c0_1):=(blk_cell BK107.out 1).trans rfl;have hfz13_0:=blk_frozen BK107.out 0;have hfz13_1:=blk_frozen BK107.out 1)|((with_reducible refine gate_callee (f:=105) rfl ?_);refine goesL_ (some 5) rfl rfl Tryz.func105 (by kernel_rfl) rfl #[.agg #[.bool false,.slice A0_1 l0_1.length c0_1]] rfl (by(try simp only [List.map_toArray,List.map_cons,List.map_nil]);first|done|rfl|(simp only [List.length_drop,List.length_take];rfl)) ?_;(with_reducible refine(whole_Whole_Zero.calls false _ _ l0_1 false _ ?side1 ?side2 A2.out).mono ?_);(case side1=>repeat (first|exact(Kd.C_below HR0_1.out HB.out)|(with_reducible refine Kd.C_alloc ?_ _)|(with_reducible refine Kd.C_drewN ?_ _)|(with_reducible refine Kd.C_drew ?_)));(case side2=>exact HC0_1.out);rintro e w14 ⟨rfl,hb⟩;refine⟨_,rfl,?_⟩;have n0_:=Aside0.mk (blk_below (g:=gb107) (o:=.cells #[.bool false,.slice A0_1 l0_1.length c0_1] 50 (0,0)) (rbk BK107.out) hb);have n1_:=Aside0.mk (below_step (by repeat (first|(with_reducible first|exact HB.out|apply below_alloc|apply pw_below_drewN|apply below_drew1|refine below_set ?_ GE107.out)|exact HB.out)) hb);clear BK107;clear HB;have BK107:=n0_;have HB:=n1_;clear n0_ n1_;(try clear hb);(try clear hb2);(try clear hk);(try clear hi);have hcz15_0:w14.cell? ⟨gb107,0,none⟩=some (.bool false):=(blk_cell BK107.out 0).trans rfl;have hcz15_1:w14.cell? ⟨gb107,1,none⟩=some (.slice A0_1 l0_1.length c0_1):=(blk_cell BK107.out 1).trans rfl;have hfz15_0:=blk_frozen BK107.out 0;have hfz15_1:=blk_frozen BK107.out 1))
     go_ret
     exact⟨pr2,by repeat (first|(with_reducible first|exact HB.out|apply below_alloc|apply pw_below_drewN|apply below_drew1|refine below_set ?_ GE107.out)|exact HB.out)⟩
def whole_plain.l0:Nat→List Int→Option (List Int)
 | 0,_=>none
 | k+1,x0=>if (x0.length:Int)>0 then(if 0≤(wrap64 ((x0.length:Int)-1))then (if (wrap64 ((x0.length:Int)-1))<(x0.length:Int)then (if (rd x0 (wrap64 ((x0.length:Int)-1)))=0 then(if (wrap64 ((x0.length:Int)-1))≤(x0.length:Int)then (whole_plain.l0 k (x0.take ((wrap64 ((x0.length:Int)-1)):Int).toNat))else (none))else (some x0))else (none))else (none))else (some x0)
def whole_plain.f(k:Nat)(l0:List Int):Option (List Int):=whole_plain.l0 k l0
theorem whole_plain.calls(k:Nat)(P0_:Nat→Prop)(A0:Option Addr)(c0:Nat)(l0:List Int)(r:List Int)(w:World)(hs0:Kd.V (Kd.int .u32) 95 w w.heap.size (fun k_=>P0_ k_) (.slice A0 l0.length c0) l0)(h:whole_plain.f k l0=some r) :
 Calls Tryz.prog 130 #[.slice A0 l0.length c0] w fun e w'=>∃v0_:Value,e=.returned (v0_)∧Kd.V (Kd.int .u32) 95 w' w.heap.size (fun k_=>(P0_ k_∨w.heap.size≤k_)) v0_ r∧Below w.heap.size w w':=by
 have HO0:=Aside0.mk (show Kd.V (Kd.int .u32) 95 w w.heap.size (fun k_=>(P0_ k_∨w.heap.size≤k_)) (.slice A0 l0.length c0) l0 from Kd.V_mono hs0 (fun k_ hk=>.inl hk))
 have HB:=Aside0.mk (Below.refl w.heap.size w)
 have H:(whole_plain.l0 k l0)=some r:=h
 clear h
 have H':=Aside0.mk H
 clear H
 go_enter Tryz.func130,Tryz.ntmps130
 go_wp2
 go_loopg [0] k (fun kq v0 w'=>∃(x0_1:List Int),Aside0 (whole_plain.l0 kq x0_1=some r)∧Aside0 (kq≤k)∧Aside0 (Kd.V (Kd.int .u32) 95 w' w.heap.size (fun k_=>(P0_ k_∨w.heap.size≤k_)) v0 x0_1)∧Aside0 (Below w.heap.size w w'))
 case atStart=>exact ⟨(l0),H',⟨Nat.le_refl _⟩,⟨by (with_reducible repeat (first|apply Kd.V_alloc|apply Kd.V_drewN|apply Kd.V_drew));exact HO0.out⟩,⟨pb⟩⟩
 case round =>
  clear H';obtain⟨x0_1,HA,HK1,HO_0,HB⟩:=hrel;cases gk with
  | zero=>exact absurd HA.out (by simp [whole_plain.l0])
  | succ k1 =>
   have H:=HA.out;clear HA;simp only [whole_plain.l0]at H;by_cases c2:(x0_1.length:Int)>0
   · rw [if_pos c2]at H;have c2b0:=decide_eq_true c2;have c2b1:decide (0<x0_1.length)=true:=decide_eq_true (by omega);clear c2;obtain⟨ji3,hji3⟩:∃j_:Int,(wrap64 ((x0_1.length:Int)-1))=j_:=⟨_,rfl⟩;replace H:(if 0≤(ji3)then (if (ji3)<(x0_1.length:Int)then (if (rd x0_1 (ji3))=0 then(if (ji3)≤(x0_1.length:Int)then (whole_plain.l0 k1 (x0_1.take ((ji3):Int).toNat))else (none))else (some x0_1))else (none))else (none))=some r:=by first|(rw [hji3]at H;exact H)|(simp only [hji3]at H ⊢;exact H)
     have hji3w:(IntKind.i64.wrap ((x0_1.length:Int)-1))=ji3:=(i64_w _).trans hji3;replace H:=ifs H;obtain⟨c4,H⟩:=H;have c4b0:=decide_eq_true c4;clear c4;replace H:=ifs H;obtain⟨c5,H⟩:=H;have c5b0:=decide_eq_true c5;clear c5;by_cases c6:(rd x0_1 (ji3))=0
     · rw [if_pos c6]at H;have c6b0:((rd x0_1 (ji3))==0)=true:=beq_iff_eq.mpr c6;have c6b1:((rd x0_1 (ji3)) !=0)=false:=bne_eq_false_iff_eq.mpr c6;clear c6;have c7b0:=eq_true (oda:0≤(ji3));replace H:=ifs H;obtain⟨c8,H⟩:=H;have c8b0:=eq_true c8;have c8b1:=decide_eq_true c8;clear c8;obtain⟨y110,hy110⟩:∃y_:List Int,y_=(x0_1.take ((ji3):Int).toNat):=⟨_,rfl⟩;replace H:(whole_plain.l0 k1 y110)=some r:=ry hy110 H;have Ny110:=Aside0.mk hy110;clear hy110;have H':=Aside0.mk H;clear H;obtain⟨Ao9,co9,eo9⟩:=Kd.V_slice HO_0.out;subst eo9;have p109:0≤((ji3):Int):=oda;have q109:(ji3)<(x0_1.length:Int):=oda;obtain⟨ad109,e109,hx109_0⟩:=Kd.at_int (Kd.V_reads' HO_0.out).2.2 (ji3) p109 q109;cases e109;replace p109:=eq_true p109;replace q109:=eq_true q109;have q10:((ji3):Int)≤((x0_1.length:Int):Int):=oda;obtain⟨i010,hi010,_,hsz10,_⟩:=info_parts info70;have hroom10:x0_1.length≤co9:=(Kd.V_reads' HO_0.out).2.1;have hC10:Kd.F (Kd.int .u32) _ _ (some ad109) x0_1.length x0_1:=(Kd.V_at (base:=w.heap.size) HO_0.out).2.2;have hcut10:=cut_to (P:=Tryz.prog) 48 95 .i64 Tryz.underlying48 hi010 (some ad109) x0_1.length co9 (ji3) (oda) q10 hroom10;have hr10:=Kd.F_take (m:=((ji3):Int).toNat) hC10 (by omega);have hy10:y110.length=((ji3):Int).toNat:=(by rw [Ny110.out,List.length_take];omega);rw [←Ny110.out]at hr10;rw [←hy10]at hcut10;have HO114:=Aside0.mk (show Kd.V (Kd.int .u32) 95 _ w.heap.size _ (.slice (some ad109) y110.length co9) y110 from Kd.V_mk (by omega) hr10);have HC114:=Aside0.mk (show y110.length≤co9 from by omega);clear hr10 hC10 hroom10 hi010 hsz10;have KY10:=Aside0.mk hy10;clear hy10;replace q10:=eq_true q10;go_wp2
       go_roundg k1
       case measure=>have:=HK1.out;omega
       case rel=>exact ⟨(y110),H',⟨by have:=HK1.out;omega⟩,⟨by (with_reducible repeat (first|apply Kd.V_alloc|apply Kd.V_drewN|apply Kd.V_drew));exact HO114.out⟩,⟨pb⟩⟩
     · rw [if_neg c6]at H;have c6b0:((rd x0_1 (ji3))==0)=false:=beq_eq_false_iff_ne.mpr c6;have c6b1:((rd x0_1 (ji3)) !=0)=true:=bne_iff_ne.mpr c6;obtain rfl:=Option.some.inj H;obtain⟨Ao11,co11,eo11⟩:=Kd.V_slice HO_0.out;subst eo11;have p109:0≤((ji3):Int):=oda;have q109:(ji3)<(x0_1.length:Int):=oda;obtain⟨ad109,e109,hx109_0⟩:=Kd.at_int (Kd.V_reads' HO_0.out).2.2 (ji3) p109 q109;cases e109;replace p109:=eq_true p109;replace q109:=eq_true q109;go_wp2
       go_ret
       exact⟨_,by first|rfl|(simp [errW_none,errW_some] <;> rfl)|(simp only [←hji3];first|rfl|(simp [errW_none,errW_some] <;> rfl))|(simp [*,errW_none,errW_some] <;> rfl),by (with_reducible repeat (first|apply Kd.V_alloc|apply Kd.V_drewN|apply Kd.V_drew));exact HO_0.out,pb⟩
   · rw [if_neg c2]at H;have c2b0:=decide_eq_false c2;have c2b1:decide (0<x0_1.length)=false:=decide_eq_false (by omega);clear c2;obtain rfl:=Option.some.inj H;obtain⟨Ao12,co12,eo12⟩:=Kd.V_slice HO_0.out;subst eo12;go_wp2
     go_ret
     exact⟨_,pr2,by (with_reducible repeat (first|apply Kd.V_alloc|apply Kd.V_drewN|apply Kd.V_drew));exact HO_0.out,pb⟩
def whole_signed.f(k:Nat)(l0:List Int)(a1:Bool):Option (Bool×List Int):=(whole_plain.f k l0).bind fun t116=>(if a1=true then(some (decide ((t116.length:Int)>0),t116))else (some (false,t116)))
theorem whole_signed.calls(k:Nat)(P0_:Nat→Prop)(A0:Option Addr)(c0:Nat)(l0:List Int)(a1:Bool)(r1:Bool)(r2:List Int)(w:World)(hs0:Kd.V (Kd.int .u32) 95 w w.heap.size (fun k_=>P0_ k_) (.slice A0 l0.length c0) l0)(h:whole_signed.f k l0 a1=some (r1,r2)) :
 Calls Tryz.prog 112 #[.slice A0 l0.length c0,.bool a1] w fun e w'=>∃v1_:Value,e=.returned (.agg #[.bool r1,v1_])∧Kd.V (Kd.int .u32) 95 w' w.heap.size (fun k_=>(P0_ k_∨w.heap.size≤k_)) v1_ r2∧Below w.heap.size w w':=by
 have hu50:=Tryz.underlying50
 have HO0:=Aside0.mk (show Kd.V (Kd.int .u32) 95 w w.heap.size (fun k_=>(P0_ k_∨w.heap.size≤k_)) (.slice A0 l0.length c0) l0 from Kd.V_mono hs0 (fun k_ hk=>.inl hk))
 have HB:=Aside0.mk (Below.refl w.heap.size w)
 have H:((whole_plain.f k l0).bind fun t116=>(if a1=true then(some (decide ((t116.length:Int)>0),t116))else (some (false,t116))))=some (r1,r2):=h
 clear h
 replace H:=Option.bind_eq_some_iff.mp H
 obtain⟨t116,A30,H⟩:=H
 replace H:(if a1=true then(some (decide ((t116.length:Int)>0),t116))else (some (false,t116)))=some (r1,r2):=H
 have A3:=Aside0.mk A30
 clear A30
 by_cases c4:a1=true
 · subst c4;have H1:(some (decide ((t116.length:Int)>0),t116))=some (r1,r2):=by rw [if_pos rfl]at H;exact H
   clear H;have H:=H1;clear H1;simp only [Option.some.injEq,Prod.mk.injEq]at H;obtain⟨rfl,rfl⟩:=H;go_enter Tryz.func112,Tryz.ntmps112
   go_wp2_with (first|((with_reducible refine gate_dst (N:=4) rfl ?_);(try (refine gate_guard (by rfl) ?_;dsimp only));refine box_event ?hg (N:=4) ?hd (cs:= #[.bool false,.slice none 0 0]) (t:=50) ?hr ?_;(case hd=>rfl);(case hg=>rfl);(case hr=>first|(go_simp;done)|(go_simp;rfl));intro gb115 hg w5 hbox hb;have n0_:=Aside0.mk (Kd.V_below (Kd.V_elderB (by(with_reducible repeat (first|apply Kd.V_alloc|apply Kd.V_drewN|apply Kd.V_drew));exact HO0.out) gb115 (Nat.le_of_eq hg.symm)) hb);have n1_:=Aside0.mk (below_step pb hb);have n2_:=Aside0.mk (hbox);have n3_:=Aside0.mk ((by rw [hg];exact(below_size pb):w.heap.size≤gb115));have n4_:=Aside0.mk ((by rw [hg];exact(below_size pb):w.heap.size≤gb115));clear HO0;clear HB;have HO0:=n0_;have HB:=n1_;have BK115:=n2_;have GW115:=n3_;have GE115:=n4_;clear n0_ n1_ n2_ n3_ n4_;clear hb hbox hg)|((with_reducible refine gate_callee (f:=130) rfl ?_);refine goesL_ (some 6) rfl rfl Tryz.func130 (by kernel_rfl) rfl #[.slice A0 l0.length c0] rfl (by(try simp only [List.map_toArray,List.map_cons,List.map_nil]);first|done|rfl|(simp only [List.length_drop,List.length_take];rfl)) ?_;(with_reducible refine(whole_plain.calls k (fun k_=>((P0_ k_∨w.heap.size≤k_)∧k_≠gb115)) _ _ l0 t116 _ ?side1 A3.out).mono ?_);(case side1=>exact HO0.out);rintro e w6 ⟨v117,rfl,ho0,hb⟩;refine⟨_,rfl,?_⟩;have n0_:=Aside0.mk (Kd.V_below (by(with_reducible repeat (first|apply Kd.V_alloc|apply Kd.V_drewN|apply Kd.V_drew));exact HO0.out) hb);have n1_:=Aside0.mk (Kd.V_lower (Kd.V_mono (ok':=fun k_=>(P0_ k_∨w.heap.size≤k_)∧k_≠gb115) ho0 (fun k_ hk_=>⟨Or.elim hk_ (fun hs_=>hs_.1) (fun hn_=>(.inr (Nat.le_trans (below_size (by repeat (first|(with_reducible first|exact HB.out|apply below_alloc|apply pw_below_drewN|apply below_drew1|refine below_set ?_ GE115.out)|exact HB.out))) hn_))),Or.elim hk_ (fun hs_=>hs_.2) (fun hn_=>(Kd.freshB (g:=gb115) (o:=.cells #[.bool false,.slice none 0 0] 50 (0,0)) (rbk BK115.out) k_ hn_))⟩)) (below_size (by repeat (first|(with_reducible first|exact HB.out|apply below_alloc|apply pw_below_drewN|apply below_drew1|refine below_set ?_ GE115.out)|exact HB.out))));have n2_:=Aside0.mk (blk_below (g:=gb115) (o:=.cells #[.bool false,.slice none 0 0] 50 (0,0)) (rbk BK115.out) hb);have n3_:=Aside0.mk (below_step (by repeat (first|(with_reducible first|exact HB.out|apply below_alloc|apply pw_below_drewN|apply below_drew1|refine below_set ?_ GE115.out)|exact HB.out)) hb);clear HO0;clear BK115;clear HB;have HO0:=n0_;have HO118:=n1_;have BK115:=n2_;have HB:=n3_;clear n0_ n1_ n2_ n3_;(try clear hb);(try clear hb2);(try clear hk);(try clear hi);(try clear ho0);obtain⟨Ao7,co7,eo7⟩:=Kd.V_slice HO118.out;subst eo7;have hcz8_0:w6.cell? ⟨gb115,0,none⟩=some (.bool false):=(blk_cell BK115.out 0).trans rfl;have hcz8_1:w6.cell? ⟨gb115,1,none⟩=some (.slice none 0 0):=(blk_cell BK115.out 1).trans rfl;have hfz8_0:=blk_frozen BK115.out 0;have hfz8_1:=blk_frozen BK115.out 1))
   refine bodyPost_ret (results_cell_row rfl _ _ gb115 50 #[.bool (decide ((t116.length:Int)>0)),.slice Ao7 t116.length co7] (0,0) _ rfl (by(with_reducible repeat (first|refine blk_drewN ?_ _|refine blk_drew ?_|refine blk_alloc ?_ _));refine blk_put (cs:= #[.bool (decide ((t116.length:Int)>0)),.slice none 0 0]) ?_ 1 _ pr1;(with_reducible repeat (first|refine blk_drewN ?_ _|refine blk_drew ?_|refine blk_alloc ?_ _));refine blk_put (cs:= #[.bool false,.slice none 0 0]) ?_ 0 _ pr1;(with_reducible repeat (first|refine blk_drewN ?_ _|refine blk_drew ?_|refine blk_alloc ?_ _));exact BK115.out) Tryz.underlying50 rfl (by kernel_rfl)) rfl ?_;exact⟨_,pr2,by (with_reducible repeat (first|apply Kd.V_alloc|apply Kd.V_drewN|apply Kd.V_drew));exact Kd.V_mono (Kd.V_far (p:=⟨gb115,1,none⟩) (Kd.V_far (p:=⟨gb115,0,none⟩) (Kd.V_mono HO118.out (fun k_ hk=>(⟨hk,hk.2⟩:_∧k_≠gb115))) (fun _ hk=>hk.2) _) (fun _ hk=>hk.2) (.slice Ao7 t116.length co7)) (fun _ hk=>hk.1.1),by repeat (first|(with_reducible first|exact HB.out|apply below_alloc|apply pw_below_drewN|apply below_drew1|refine below_set ?_ GE115.out)|exact HB.out)⟩
 · replace c4:=Bool.eq_false_iff.mpr c4;subst c4;have H1:(some (false,t116))=some (r1,r2):=by rw [if_neg (show ¬(false=true) by decide)]at H;exact H
   clear H;have H:=H1;clear H1;simp only [Option.some.injEq,Prod.mk.injEq]at H;obtain⟨rfl,rfl⟩:=H;go_enter Tryz.func112,Tryz.ntmps112
   go_wp2_with (first|((with_reducible refine gate_dst (N:=4) rfl ?_);(try (refine gate_guard (by rfl) ?_;dsimp only));refine box_event ?hg (N:=4) ?hd (cs:= #[.bool false,.slice none 0 0]) (t:=50) ?hr ?_;(case hd=>rfl);(case hg=>rfl);(case hr=>first|(go_simp;done)|(go_simp;rfl));intro gb115 hg w9 hbox hb;have n0_:=Aside0.mk (Kd.V_below (Kd.V_elderB (by(with_reducible repeat (first|apply Kd.V_alloc|apply Kd.V_drewN|apply Kd.V_drew));exact HO0.out) gb115 (Nat.le_of_eq hg.symm)) hb);have n1_:=Aside0.mk (below_step pb hb);have n2_:=Aside0.mk (hbox);have n3_:=Aside0.mk ((by rw [hg];exact(below_size pb):w.heap.size≤gb115));have n4_:=Aside0.mk ((by rw [hg];exact(below_size pb):w.heap.size≤gb115));clear HO0;clear HB;have HO0:=n0_;have HB:=n1_;have BK115:=n2_;have GW115:=n3_;have GE115:=n4_;clear n0_ n1_ n2_ n3_ n4_;clear hb hbox hg)|((with_reducible refine gate_callee (f:=130) rfl ?_);refine goesL_ (some 6) rfl rfl Tryz.func130 (by kernel_rfl) rfl #[.slice A0 l0.length c0] rfl (by(try simp only [List.map_toArray,List.map_cons,List.map_nil]);first|done|rfl|(simp only [List.length_drop,List.length_take];rfl)) ?_;(with_reducible refine(whole_plain.calls k (fun k_=>((P0_ k_∨w.heap.size≤k_)∧k_≠gb115)) _ _ l0 t116 _ ?side1 A3.out).mono ?_);(case side1=>exact HO0.out);rintro e w10 ⟨v117,rfl,ho0,hb⟩;refine⟨_,rfl,?_⟩;have n0_:=Aside0.mk (Kd.V_below (by(with_reducible repeat (first|apply Kd.V_alloc|apply Kd.V_drewN|apply Kd.V_drew));exact HO0.out) hb);have n1_:=Aside0.mk (Kd.V_lower (Kd.V_mono (ok':=fun k_=>(P0_ k_∨w.heap.size≤k_)∧k_≠gb115) ho0 (fun k_ hk_=>⟨Or.elim hk_ (fun hs_=>hs_.1) (fun hn_=>(.inr (Nat.le_trans (below_size (by repeat (first|(with_reducible first|exact HB.out|apply below_alloc|apply pw_below_drewN|apply below_drew1|refine below_set ?_ GE115.out)|exact HB.out))) hn_))),Or.elim hk_ (fun hs_=>hs_.2) (fun hn_=>(Kd.freshB (g:=gb115) (o:=.cells #[.bool false,.slice none 0 0] 50 (0,0)) (rbk BK115.out) k_ hn_))⟩)) (below_size (by repeat (first|(with_reducible first|exact HB.out|apply below_alloc|apply pw_below_drewN|apply below_drew1|refine below_set ?_ GE115.out)|exact HB.out))));have n2_:=Aside0.mk (blk_below (g:=gb115) (o:=.cells #[.bool false,.slice none 0 0] 50 (0,0)) (rbk BK115.out) hb);have n3_:=Aside0.mk (below_step (by repeat (first|(with_reducible first|exact HB.out|apply below_alloc|apply pw_below_drewN|apply below_drew1|refine below_set ?_ GE115.out)|exact HB.out)) hb);clear HO0;clear BK115;clear HB;have HO0:=n0_;have HO118:=n1_;have BK115:=n2_;have HB:=n3_;clear n0_ n1_ n2_ n3_;(try clear hb);(try clear hb2);(try clear hk);(try clear hi);(try clear ho0);obtain⟨Ao11,co11,eo11⟩:=Kd.V_slice HO118.out;subst eo11;have hcz12_0:w10.cell? ⟨gb115,0,none⟩=some (.bool false):=(blk_cell BK115.out 0).trans rfl;have hcz12_1:w10.cell? ⟨gb115,1,none⟩=some (.slice none 0 0):=(blk_cell BK115.out 1).trans rfl;have hfz12_0:=blk_frozen BK115.out 0;have hfz12_1:=blk_frozen BK115.out 1))
   refine bodyPost_ret (results_cell_row rfl _ _ gb115 50 #[.bool false,.slice Ao11 t116.length co11] (0,0) _ rfl (by(with_reducible repeat (first|refine blk_drewN ?_ _|refine blk_drew ?_|refine blk_alloc ?_ _));refine blk_put (cs:= #[.bool false,.slice none 0 0]) ?_ 1 _ pr1;(with_reducible repeat (first|refine blk_drewN ?_ _|refine blk_drew ?_|refine blk_alloc ?_ _));refine blk_put (cs:= #[.bool false,.slice none 0 0]) ?_ 0 _ pr1;(with_reducible repeat (first|refine blk_drewN ?_ _|refine blk_drew ?_|refine blk_alloc ?_ _));exact BK115.out) Tryz.underlying50 rfl (by kernel_rfl)) rfl ?_;exact⟨_,pr2,by (with_reducible repeat (first|apply Kd.V_alloc|apply Kd.V_drewN|apply Kd.V_drew));exact Kd.V_mono (Kd.V_far (p:=⟨gb115,1,none⟩) (Kd.V_far (p:=⟨gb115,0,none⟩) (Kd.V_mono HO118.out (fun k_ hk=>(⟨hk,hk.2⟩:_∧k_≠gb115))) (fun _ hk=>hk.2) (.bool false)) (fun _ hk=>hk.2) (.slice Ao11 t116.length co11)) (fun _ hk=>hk.1.1),by repeat (first|(with_reducible first|exact HB.out|apply below_alloc|apply pw_below_drewN|apply below_drew1|refine below_set ?_ GE115.out)|exact HB.out)⟩
def whole_Whole_Abs.f(a0_0:Bool)(l0_1:List Int):Option (Bool×List Int):=some (false,l0_1)
def whole_compare.l0:Nat→List Int→List Int→Int→Option (Int)
 | 0,_,_,_=>none
 | k+1,x0,x1,x5=>if x5≥0 then(if 0≤x5 then(if x5<(x0.length:Int)then (if x5<(x1.length:Int)then (if (rd x0 x5)=(rd x1 x5)then (whole_compare.l0 k x0 x1 (wrap64 (x5-1)))else (some (wrap64 ((wrap64 (rd x0 x5))-(wrap64 (rd x1 x5))))))else (none))else (none))else (none))else (some 0)
def whole_compare.f(k:Nat)(l0:List Int)(l1:List Int):Option (Int):=if (l0.length:Int)=(l1.length:Int)then (whole_compare.l0 k l0 l1 (wrap64 ((l0.length:Int)-1)))else (some (wrap64 ((l0.length:Int)-(l1.length:Int))))
theorem whole_compare.calls(k:Nat)(A0:Option Addr)(c0:Nat)(l0:List Int)(A1:Option Addr)(c1:Nat)(l1:List Int)(r:Int)(w:World)(hr0:Kd.C (Kd.int .u32) w A0 l0.length l0)(hc0:l0.length≤c0)(hr1:Kd.C (Kd.int .u32) w A1 l1.length l1)(hc1:l1.length≤c1)(h:whole_compare.f k l0 l1=some r) :
 Calls Tryz.prog 116 #[.slice A0 l0.length c0,.slice A1 l1.length c1] w fun e w'=>e=.returned (.int .i64 r)∧Drawn0 w w':=by
 have HR0:=Aside0.mk hr0
 have HC0:=Aside0.mk hc0
 clear hr0 hc0
 have HR1:=Aside0.mk hr1
 have HC1:=Aside0.mk hc1
 clear hr1 hc1
 have H:(if (l0.length:Int)=(l1.length:Int)then (whole_compare.l0 k l0 l1 (wrap64 ((l0.length:Int)-1)))else (some (wrap64 ((l0.length:Int)-(l1.length:Int)))))=some r:=h
 clear h
 by_cases c3:(l0.length:Int)=(l1.length:Int)
 · rw [if_pos c3]at H;have c3b0:((l0.length:Int)==(l1.length:Int))=true:=beq_iff_eq.mpr c3;have c3b1:((l0.length:Int) !=(l1.length:Int))=false:=bne_eq_false_iff_eq.mpr c3;have c3b2:(l0.length==l1.length)=true:=by first|simpa using c3|(simp at c3 ⊢;omega)
   clear c3;have H':=Aside0.mk H;clear H;go_enter Tryz.func116,Tryz.ntmps116
   go_wp2
   repeat (go_quiet (fail);try go_wp2)
   go_loopg [5] k (fun kq v5 w'=>∃(x5_1:Int),v5=.int .i64 x5_1∧Aside0 (whole_compare.l0 kq l0 l1 x5_1=some r)∧Aside0 (kq≤k)∧Drawn0 w w')
   case atStart=>exact ⟨(wrap64 ((l0.length:Int)-1)),pr1,H',⟨Nat.le_refl _⟩,by repeat (first|exact Drawn0.refl _|apply Drawn0.step)⟩
   case round =>
    clear H';try clear c1
    try clear p2
    try clear c3
    try clear c3b0
    try clear c3b1
    try clear c3b2
    obtain⟨x5_1,rfl,HA,HK1,⟨m1,rfl⟩⟩:=hrel;cases gk with
    | zero=>exact absurd HA.out (by simp [whole_compare.l0])
    | succ k1 =>
     have H:=HA.out;clear HA;simp only [whole_compare.l0]at H;by_cases c4:x5_1≥0
     · rw [if_pos c4]at H;have c4b0:=decide_eq_true c4;clear c4;replace H:=ifs H;obtain⟨c5,H⟩:=H;have c5b0:=decide_eq_true c5;clear c5;replace H:=ifs H;obtain⟨c6,H⟩:=H;have c6b0:=decide_eq_true c6;clear c6;replace H:=ifs H;obtain⟨c7,H⟩:=H;have c7b0:=decide_eq_true c7;clear c7;by_cases c8:(rd l0 x5_1)=(rd l1 x5_1)
       · rw [if_pos c8]at H;have c8b0:((rd l0 x5_1)==(rd l1 x5_1))=true:=beq_iff_eq.mpr c8;have c8b1:((rd l0 x5_1) !=(rd l1 x5_1))=false:=bne_eq_false_iff_eq.mpr c8;clear c8;have H':=Aside0.mk H;clear H;have p121:0≤(x5_1:Int):=oda;have q121:x5_1<(l0.length:Int):=oda;obtain⟨ad121,e121,hx121_0⟩:=Kd.at_int HR0.out x5_1 p121 q121;cases e121;replace p121:=eq_true p121;replace q121:=eq_true q121;have p122:0≤(x5_1:Int):=oda;have q122:x5_1<(l1.length:Int):=oda;obtain⟨ad122,e122,hx122_0⟩:=Kd.at_int HR1.out x5_1 p122 q122;cases e122;replace p122:=eq_true p122;replace q122:=eq_true q122;go_wp2
         repeat (go_quiet (fail);try go_wp2)
         go_roundg k1
         case measure=>have:=HK1.out;omega
         case rel=>exact ⟨(wrap64 (x5_1-1)),pr1,H',⟨by have:=HK1.out;omega⟩,by repeat (first|exact Drawn0.refl _|apply Drawn0.step)⟩
       · rw [if_neg c8]at H;have c8b0:((rd l0 x5_1)==(rd l1 x5_1))=false:=beq_eq_false_iff_ne.mpr c8;have c8b1:((rd l0 x5_1) !=(rd l1 x5_1))=true:=bne_iff_ne.mpr c8;obtain rfl:=Option.some.inj H;have p121:0≤(x5_1:Int):=oda;have q121:x5_1<(l0.length:Int):=oda;obtain⟨ad121,e121,hx121_0⟩:=Kd.at_int HR0.out x5_1 p121 q121;cases e121;replace p121:=eq_true p121;replace q121:=eq_true q121;have p122:0≤(x5_1:Int):=oda;have q122:x5_1<(l1.length:Int):=oda;obtain⟨ad122,e122,hx122_0⟩:=Kd.at_int HR1.out x5_1 p122 q122;cases e122;replace p122:=eq_true p122;replace q122:=eq_true q122;have p123:0≤(x5_1:Int):=oda;have q123:x5_1<(l0.length:Int):=oda;obtain⟨ad123,e123,hx123_0⟩:=Kd.at_int HR0.out x5_1 p123 q123;obtain rfl:ad121=ad123:=(by injection e123);replace p123:=eq_true p123;replace q123:=eq_true q123;have p124:0≤(x5_1:Int):=oda;have q124:x5_1<(l1.length:Int):=oda;obtain⟨ad124,e124,hx124_0⟩:=Kd.at_int HR1.out x5_1 p124 q124;obtain rfl:ad122=ad124:=(by injection e124);replace p124:=eq_true p124;replace q124:=eq_true q124;go_wp2
         repeat (go_quiet (fail);try go_wp2)
         go_ret
         exact⟨pr1,by repeat (first|exact Drawn0.refl _|apply Drawn0.step)⟩
     · rw [if_neg c4]at H;have c4b0:=decide_eq_false c4;clear c4;obtain rfl:=Option.some.inj H;go_wp2
       repeat (go_quiet (fail);try go_wp2)
       go_ret
       exact⟨pr1,by repeat (first|exact Drawn0.refl _|apply Drawn0.step)⟩
 · rw [if_neg c3]at H;have c3b0:((l0.length:Int)==(l1.length:Int))=false:=beq_eq_false_iff_ne.mpr c3;have c3b1:((l0.length:Int) !=(l1.length:Int))=true:=bne_iff_ne.mpr c3;have c3b2:(l0.length==l1.length)=false:=by first|simpa using c3|(simp at c3 ⊢;omega)
   obtain rfl:=Option.some.inj H;go_enter Tryz.func116,Tryz.ntmps116
   go_wp2
   repeat (go_quiet (fail);try go_wp2)
   go_ret
   exact⟨pr1,by repeat (first|exact Drawn0.refl _|apply Drawn0.step)⟩
def whole_more.l0:Nat→List Int→List Int→Int→List Int→Int→Int→Option (List Int)
 | 0,_,_,_,_,_,_=>none
 | k+1,x1,x5,x6,x21,x22,x23=>if x23<x22 then(if 0≤x23 then(if x23<(x21.length:Int)then (if x23<(x1.length:Int)then (if x5.length<35184372088832 then(whole_more.l0 k x1 (x5++ [((((rd x21 x23)+x6)+(rd x1 x23))%4294967296)%1000000000]) (((((rd x21 x23)+x6)+(rd x1 x23))%4294967296)/1000000000) x21 x22 (wrap64 (x23+1)))else (none))else (if x5.length<35184372088832 then(whole_more.l0 k x1 (x5++ [(((rd x21 x23)+x6)%4294967296)%1000000000]) ((((rd x21 x23)+x6)%4294967296)/1000000000) x21 x22 (wrap64 (x23+1)))else (none)))else (none))else (none))else (if x5.length<35184372088832 then(some (x5++ [x6]))else (none))
def whole_more.f(k:Nat)(l0:List Int)(l1:List Int):Option (List Int):=if (l0.length:Int)<(l1.length:Int)then (none)else (if 0≤(wrap64 ((l0.length:Int)+1))then (if (wrap64 ((l0.length:Int)+1):Int).toNat≤70368744177664 then(whole_more.l0 k l1 (List.replicate 0 0) 0 l0 (l0.length:Int) 0)else (none))else (none))
theorem whole_more.calls(k:Nat)(A0:Option Addr)(c0:Nat)(l0:List Int)(A1:Option Addr)(c1:Nat)(l1:List Int)(r:List Int)(w:World)(hr0:Kd.C (Kd.int .u32) w A0 l0.length l0)(hc0:l0.length≤c0)(hr1:Kd.C (Kd.int .u32) w A1 l1.length l1)(hc1:l1.length≤c1)(h:whole_more.f k l0 l1=some r) :
 Calls Tryz.prog 128 #[.slice A0 l0.length c0,.slice A1 l1.length c1] w fun e w'=>∃v0_:Value,e=.returned (v0_)∧Kd.R (Kd.int .u32) 95 w' w.heap.size (fun _=>True) v0_ r∧Below w.heap.size w w':=by
 have HR0:=Aside0.mk hr0
 have HC0:=Aside0.mk hc0
 clear hr0 hc0
 have HR1:=Aside0.mk hr1
 have HC1:=Aside0.mk hc1
 clear hr1 hc1
 have HB:=Aside0.mk (Below.refl w.heap.size w)
 have H:(if (l0.length:Int)<(l1.length:Int)then (none)else (if 0≤(wrap64 ((l0.length:Int)+1))then (if (wrap64 ((l0.length:Int)+1):Int).toNat≤70368744177664 then(whole_more.l0 k l1 (List.replicate 0 0) 0 l0 (l0.length:Int) 0)else (none))else (none)))=some r:=h
 clear h
 by_cases c3:(l0.length:Int)<(l1.length:Int)
 · rw [if_pos c3]at H;exact absurd H (by simp)
 · rw [if_neg c3]at H;have c3b0:=decide_eq_false c3;have c3b1:decide (l0.length<l1.length)=false:=decide_eq_false (fun h=>c3 (Int.ofNat_lt.mpr h));clear c3;obtain⟨ji4,hji4⟩:∃j_:Int,(wrap64 ((l0.length:Int)+1))=j_:=⟨_,rfl⟩;replace H:(if 0≤(ji4)then (if (ji4:Int).toNat≤70368744177664 then(whole_more.l0 k l1 (List.replicate 0 0) 0 l0 (l0.length:Int) 0)else (none))else (none))=some r:=by first|(rw [hji4]at H;exact H)|(simp only [hji4]at H ⊢;exact H)
   have hji4w:(IntKind.i64.wrap ((l0.length:Int)+1))=ji4:=(i64_w _).trans hji4;replace H:=ifs H;obtain⟨c5,H⟩:=H;have c5b0:=eq_true c5;have c5b1:=decide_eq_true c5;clear c5;replace H:=ifs H;obtain⟨c6,H⟩:=H;have c6b0:=eq_true c6;have c6b1:=decide_eq_true c6;clear c6;obtain⟨y125,hy125⟩:∃y_:List Int,y_=(List.replicate 0 0):=⟨_,rfl⟩;replace H:(whole_more.l0 k l1 y125 0 l0 (l0.length:Int) 0)=some r:=ry hy125 H;have Ny125:=Aside0.mk hy125;clear hy125;have H':=Aside0.mk H;clear H;go_enter Tryz.func128,Tryz.ntmps128
   go_wp2_with (first|((with_reducible refine gate_dst (N:=20) rfl ?_);refine Kd.R_make0 (Kd.int .u32) _ 95 rfl (N:=20) rfl 48 _ _ rfl ji4 rfl rfl Tryz.underlying48 (.int .u32 0) 4 info70 (by decide) 0 (ok:=fun _=>True) trivial (oda) (Nat.le_trans (Nat.mul_le_mul_right _ (oda:ji4.toNat≤70368744177664)) (by omega)) (Below.refl _ _) (Nat.le_refl _) ?_;intro v126 w7 ho8 hb hg_ hnew_;clear hg_ hnew_;(first|rw [←Ny125.out]at ho8|(simp only [Int.reduceToNat]at ho8;rw [←Ny125.out]at ho8));have n0_:=Aside0.mk (Kd.R_lower ho8 (below_size pb));have n1_:=Aside0.mk (below_step pb hb);clear HB;have HO127:=n0_;have HB:=n1_;clear n0_ n1_;clear hb ho8))
   go_loopg [5,6,23] k (fun kq v5 v6 v23 w'=>∃(x5_1:List Int) (x6_1:Int) (x23_1:Int),v6=.int .u32 x6_1∧v23=.int .i64 x23_1∧Aside0 (whole_more.l0 kq l1 x5_1 x6_1 l0 (l0.length:Int) x23_1=some r)∧Aside0 (kq≤k)∧Aside0 (Kd.R (Kd.int .u32) 95 w' w.heap.size (fun _=>True) v5 x5_1)∧Aside0 (Below w.heap.size w w'))
   case atStart=>exact ⟨(y125),(0),(0),pr1,pr1,H',⟨Nat.le_refl _⟩,⟨rq HO127.out⟩,⟨pb⟩⟩
   case round =>
    clear H';try clear c1
    try clear p2
    try clear c3
    try clear c3b0
    try clear c3b1
    try clear c5
    try clear c5b0
    try clear c5b1
    try clear c6
    try clear c6b0
    try clear c6b1
    try clear p6
    try clear c7
    obtain⟨x5_1,x6_1,x23_1,rfl,rfl,HA,HK1,HO_5,HB⟩:=hrel;cases gk with
    | zero=>exact absurd HA.out (by simp [whole_more.l0])
    | succ k1 =>
     have H:=HA.out;clear HA;simp only [whole_more.l0]at H;by_cases c9:x23_1<(l0.length:Int)
     · rw [if_pos c9]at H;have c9b0:=decide_eq_true c9;clear c9;replace H:=ifs H;obtain⟨c10,H⟩:=H;have c10b0:=decide_eq_true c10;clear c10;replace H:=ifs H;obtain⟨c11,H⟩:=H;have c11b0:=decide_eq_true c11;clear c11;by_cases c12:x23_1<(l1.length:Int)
       · rw [if_pos c12]at H;have c12b0:=decide_eq_true c12;clear c12;replace H:=ifs H;obtain⟨c13,H⟩:=H;have LMc13:=Aside0.mk c13;clear c13;obtain⟨y130,hy130⟩:∃y_:List Int,y_=(x5_1++ [((((rd l0 x23_1)+x6_1)+(rd l1 x23_1))%4294967296)%1000000000]):=⟨_,rfl⟩;replace H:(whole_more.l0 k1 l1 y130 (((((rd l0 x23_1)+x6_1)+(rd l1 x23_1))%4294967296)/1000000000) l0 (l0.length:Int) (wrap64 (x23_1+1)))=some r:=ry hy130 H;have Ny130:=Aside0.mk hy130;clear hy130;have H':=Aside0.mk H;clear H;have p128:0≤(x23_1:Int):=oda;have q128:x23_1<(l0.length:Int):=oda;obtain⟨ad128,e128,hx128_0⟩:=Kd.at_int HR0.out x23_1 p128 q128;cases e128;replace hx128_0:=(HB.out.cell (World.block_lt_of_cell? w _ hx128_0)).trans hx128_0;replace p128:=eq_true p128;replace q128:=eq_true q128;have p129:0≤(x23_1:Int):=oda;have q129:x23_1<(l1.length:Int):=oda;obtain⟨ad129,e129,hx129_0⟩:=Kd.at_int HR1.out x23_1 p129 q129;cases e129;replace hx129_0:=(HB.out.cell (World.block_lt_of_cell? w _ hx129_0)).trans hx129_0;replace p129:=eq_true p129;replace q129:=eq_true q129;go_wp2_with (first|((with_reducible refine gate_builtin (b:=.append) (xs:= #[.tmp 41,.tmp 44]) rfl ?_);at_builtin;refine Kd.R_append (Kd.int .u32) (w0:=w) w.heap.size rfl (.tmp 41) (.tmp 44) 48 95 (.int .u32 0) 4 rfl Tryz.underlying48 info70 rfl (by decide) (by omega) u5 x5_1 (((((rd l0 x23_1)+x6_1)+(rd l1 x23_1))%4294967296)%1000000000) [.int .u32 (((((rd l0 x23_1)+x6_1)+(rd l1 x23_1))%4294967296)%1000000000)] (fun _=>True) (fun _=>False) rfl rfl ?aP (fun _ hk=>hk.elim) ?aF ?aO ?aB ?aS ?aL ?_;(case aP=>exact rfl);(case aB=>exact pb);(case aF=>exact (fun _ _=>trivial));(case aO=>exact (rq HO_5.out));(case aS=>exact (below_size pb));(case aL=>have:=LMc13.out;omega);intro v131 w14 ho hb hg hat;rw [←Ny130.out]at ho;have n0_:=Aside0.mk (hb);have n1_:=Aside0.mk (ho);clear HB;clear HO_5;have HB:=n0_;have HO132:=n1_;clear n0_ n1_;clear ho hb hg hat))
         go_roundg k1
         case measure=>have:=HK1.out;omega
         case rel=>exact ⟨(y130),(((((rd l0 x23_1)+x6_1)+(rd l1 x23_1))%4294967296)/1000000000),(wrap64 (x23_1+1)),pr1,pr1,H',⟨by have:=HK1.out;omega⟩,⟨rq HO132.out⟩,⟨pb⟩⟩
       · rw [if_neg c12]at H;have c12b0:=decide_eq_false c12;clear c12;replace H:=ifs H;obtain⟨c15,H⟩:=H;have LMc15:=Aside0.mk c15;clear c15;obtain⟨y133,hy133⟩:∃y_:List Int,y_=(x5_1++ [(((rd l0 x23_1)+x6_1)%4294967296)%1000000000]):=⟨_,rfl⟩;replace H:(whole_more.l0 k1 l1 y133 ((((rd l0 x23_1)+x6_1)%4294967296)/1000000000) l0 (l0.length:Int) (wrap64 (x23_1+1)))=some r:=ry hy133 H;have Ny133:=Aside0.mk hy133;clear hy133;have H':=Aside0.mk H;clear H;have p128:0≤(x23_1:Int):=oda;have q128:x23_1<(l0.length:Int):=oda;obtain⟨ad128,e128,hx128_0⟩:=Kd.at_int HR0.out x23_1 p128 q128;cases e128;replace hx128_0:=(HB.out.cell (World.block_lt_of_cell? w _ hx128_0)).trans hx128_0;replace p128:=eq_true p128;replace q128:=eq_true q128;go_wp2_with (first|((with_reducible refine gate_builtin (b:=.append) (xs:= #[.tmp 41,.tmp 44]) rfl ?_);at_builtin;refine Kd.R_append (Kd.int .u32) (w0:=w) w.heap.size rfl (.tmp 41) (.tmp 44) 48 95 (.int .u32 0) 4 rfl Tryz.underlying48 info70 rfl (by decide) (by omega) u5 x5_1 ((((rd l0 x23_1)+x6_1)%4294967296)%1000000000) [.int .u32 ((((rd l0 x23_1)+x6_1)%4294967296)%1000000000)] (fun _=>True) (fun _=>False) rfl rfl ?aP (fun _ hk=>hk.elim) ?aF ?aO ?aB ?aS ?aL ?_;(case aP=>exact rfl);(case aB=>exact pb);(case aF=>exact (fun _ _=>trivial));(case aO=>exact (rq HO_5.out));(case aS=>exact (below_size pb));(case aL=>have:=LMc15.out;omega);intro v134 w16 ho hb hg hat;rw [←Ny133.out]at ho;have n0_:=Aside0.mk (hb);have n1_:=Aside0.mk (ho);clear HB;clear HO_5;have HB:=n0_;have HO135:=n1_;clear n0_ n1_;clear ho hb hg hat))
         go_roundg k1
         case measure=>have:=HK1.out;omega
         case rel=>exact ⟨(y133),((((rd l0 x23_1)+x6_1)%4294967296)/1000000000),(wrap64 (x23_1+1)),pr1,pr1,H',⟨by have:=HK1.out;omega⟩,⟨rq HO135.out⟩,⟨pb⟩⟩
     · rw [if_neg c9]at H;have c9b0:=decide_eq_false c9;clear c9;replace H:=ifs H;obtain⟨c17,H⟩:=H;have LMc17:=Aside0.mk c17;clear c17;obtain⟨y136,hy136⟩:∃y_:List Int,y_=(x5_1++ [x6_1]):=⟨_,rfl⟩;replace H:(some y136)=some r:=ry hy136 H;have Ny136:=Aside0.mk hy136;clear hy136;obtain rfl:=Option.some.inj H;go_wp2_with (first|((with_reducible refine gate_builtin (b:=.append) (xs:= #[.tmp 49,.tmp 51]) rfl ?_);at_builtin;refine Kd.R_append (Kd.int .u32) (w0:=w) w.heap.size rfl (.tmp 49) (.tmp 51) 48 95 (.int .u32 0) 4 rfl Tryz.underlying48 info70 rfl (by decide) (by omega) u5 x5_1 x6_1 [.int .u32 x6_1] (fun _=>True) (fun _=>False) rfl rfl ?aP (fun _ hk=>hk.elim) ?aF ?aO ?aB ?aS ?aL ?_;(case aP=>exact rfl);(case aB=>exact pb);(case aF=>exact (fun _ _=>trivial));(case aO=>exact (rq HO_5.out));(case aS=>exact (below_size pb));(case aL=>have:=LMc17.out;omega);intro v137 w18 ho hb hg hat;rw [←Ny136.out]at ho;have n0_:=Aside0.mk (hb);have n1_:=Aside0.mk (ho);clear HB;clear HO_5;have HB:=n0_;have HO138:=n1_;clear n0_ n1_;clear ho hb hg hat))
       go_ret
       exact⟨_,by first|rfl|(simp [errW_none,errW_some] <;> rfl)|(simp only [←hji4];first|rfl|(simp [errW_none,errW_some] <;> rfl))|(simp [*,errW_none,errW_some] <;> rfl),rq HO138.out,pb⟩
end Go.Proofs.YtpdghgfbfmaplaaGreatDoor.PWhole
end
section
namespace Go.Proofs.YtpdghgfbfmaplaaGreatDoor.PWholeS
open Go.RowKit Go.Proofs.YtpdghgfbfmaplaaGreatDoorW.PrintWords Go.Proofs.YtpdghgfbfmaplaaGreatDoorW.PrintLast Go.Proofs.YtpdghgfbfmaplaaGreatDoorW.PrintMore
attribute [local go_sem] max2_int min2_int max_two min_two max_three min_three max_four min_four   -- for this text's walks alone
set_option linter.unusedVariables false
set_option linter.unusedSimpArgs false
def errW:Option Int→Value
 | none=>.nilIface
 | some c=>.iface 0 (.int .i64 c)
theorem errW_none:errW none=.nilIface:=rfl
theorem errW_some(c:Int):errW (some c)=.iface 0 (.int .i64 c):=rfl
theorem info70:(Tryz.prog.info? 95).map (fun i=>(i.zero,i.size,i.bytes))=some (some (.int .u32 0),1,4):=by kernel_rfl
def whole_more.l0:Nat→List Int→List Int→Int→List Int→Int→Int→Option (List Int)
 | 0,_,_,_,_,_,_=>none
 | k+1,x1,x5,x6,x21,x22,x23=>if x23<x22 then(if 0≤x23 then(if x23<(x21.length:Int)then (if x23<(x1.length:Int)then (if x5.length<35184372088832 then(whole_more.l0 k x1 (x5++ [((((rd x21 x23)+x6)+(rd x1 x23))%4294967296)%1000000000]) (((((rd x21 x23)+x6)+(rd x1 x23))%4294967296)/1000000000) x21 x22 (wrap64 (x23+1)))else (none))else (if x5.length<35184372088832 then(whole_more.l0 k x1 (x5++ [(((rd x21 x23)+x6)%4294967296)%1000000000]) ((((rd x21 x23)+x6)%4294967296)/1000000000) x21 x22 (wrap64 (x23+1)))else (none)))else (none))else (none))else (if x5.length<35184372088832 then(some (x5++ [x6]))else (none))
def whole_more.f(k:Nat)(l0:List Int)(l1:List Int):Option (List Int):=if (l0.length:Int)<(l1.length:Int)then (if 0≤(wrap64 ((l1.length:Int)+1))then (if (wrap64 ((l1.length:Int)+1):Int).toNat≤70368744177664 then(whole_more.l0 k l0 (List.replicate 0 0) 0 l1 (l1.length:Int) 0)else (none))else (none))else (none)
theorem whole_more.calls(k:Nat)(A0:Option Addr)(c0:Nat)(l0:List Int)(A1:Option Addr)(c1:Nat)(l1:List Int)(r:List Int)(w:World)(hr0:Kd.C (Kd.int .u32) w A0 l0.length l0)(hc0:l0.length≤c0)(hr1:Kd.C (Kd.int .u32) w A1 l1.length l1)(hc1:l1.length≤c1)(h:whole_more.f k l0 l1=some r) :
 Calls Tryz.prog 128 #[.slice A0 l0.length c0,.slice A1 l1.length c1] w fun e w'=>∃v0_:Value,e=.returned (v0_)∧Kd.R (Kd.int .u32) 95 w' w.heap.size (fun _=>True) v0_ r∧Below w.heap.size w w':=by
 have HR0:=Aside0.mk hr0
 have HC0:=Aside0.mk hc0
 clear hr0 hc0
 have HR1:=Aside0.mk hr1
 have HC1:=Aside0.mk hc1
 clear hr1 hc1
 have HB:=Aside0.mk (Below.refl w.heap.size w)
 have H:(if (l0.length:Int)<(l1.length:Int)then (if 0≤(wrap64 ((l1.length:Int)+1))then (if (wrap64 ((l1.length:Int)+1):Int).toNat≤70368744177664 then(whole_more.l0 k l0 (List.replicate 0 0) 0 l1 (l1.length:Int) 0)else (none))else (none))else (none))=some r:=h
 clear h
 replace H:=ifs H
 obtain⟨c3,H⟩:=H
 have c3b0:=decide_eq_true c3
 have c3b1:decide (l0.length<l1.length)=true:=decide_eq_true (Int.ofNat_lt.mp c3)
 clear c3
 obtain⟨ji4,hji4⟩:∃j_:Int,(wrap64 ((l1.length:Int)+1))=j_:=⟨_,rfl⟩
 replace H:(if 0≤(ji4)then (if (ji4:Int).toNat≤70368744177664 then(whole_more.l0 k l0 (List.replicate 0 0) 0 l1 (l1.length:Int) 0)else (none))else (none))=some r:=by first|(rw [hji4]at H;exact H)|(simp only [hji4]at H ⊢;exact H)
 have hji4w:(IntKind.i64.wrap ((l1.length:Int)+1))=ji4:=(i64_w _).trans hji4
 replace H:=ifs H
 obtain⟨c5,H⟩:=H
 have c5b0:=eq_true c5
 have c5b1:=decide_eq_true c5
 clear c5
 replace H:=ifs H
 obtain⟨c6,H⟩:=H
 have c6b0:=eq_true c6
 have c6b1:=decide_eq_true c6
 clear c6
 obtain⟨y101,hy101⟩:∃y_:List Int,y_=(List.replicate 0 0):=⟨_,rfl⟩
 replace H:(whole_more.l0 k l0 y101 0 l1 (l1.length:Int) 0)=some r:=ry hy101 H
 have Ny101:=Aside0.mk hy101
 clear hy101
 have H':=Aside0.mk H
 clear H
 go_enter Tryz.func128,Tryz.ntmps128
 go_wp2_with (first|((with_reducible refine gate_dst (N:=20) rfl ?_);refine Kd.R_make0 (Kd.int .u32) _ 95 rfl (N:=20) rfl 48 _ _ rfl ji4 rfl rfl Tryz.underlying48 (.int .u32 0) 4 info70 (by decide) 0 (ok:=fun _=>True) trivial (oda) (Nat.le_trans (Nat.mul_le_mul_right _ (oda:ji4.toNat≤70368744177664)) (by omega)) (Below.refl _ _) (Nat.le_refl _) ?_;intro v102 w7 ho8 hb hg_ hnew_;clear hg_ hnew_;(first|rw [←Ny101.out]at ho8|(simp only [Int.reduceToNat]at ho8;rw [←Ny101.out]at ho8));have n0_:=Aside0.mk (Kd.R_lower ho8 (below_size pb));have n1_:=Aside0.mk (below_step pb hb);clear HB;have HO103:=n0_;have HB:=n1_;clear n0_ n1_;clear hb ho8))
 go_loopg [5,6,23] k (fun kq v5 v6 v23 w'=>∃(x5_1:List Int) (x6_1:Int) (x23_1:Int),v6=.int .u32 x6_1∧v23=.int .i64 x23_1∧Aside0 (whole_more.l0 kq l0 x5_1 x6_1 l1 (l1.length:Int) x23_1=some r)∧Aside0 (kq≤k)∧Aside0 (Kd.R (Kd.int .u32) 95 w' w.heap.size (fun _=>True) v5 x5_1)∧Aside0 (Below w.heap.size w w'))
 case atStart=>exact ⟨(y101),(0),(0),pr1,pr1,H',⟨Nat.le_refl _⟩,⟨rq HO103.out⟩,⟨pb⟩⟩
 case round =>
  clear H';try clear c1
  try clear p2
  try clear c3
  try clear c3b0
  try clear c3b1
  try clear c5
  try clear c5b0
  try clear c5b1
  try clear c6
  try clear c6b0
  try clear c6b1
  try clear p6
  try clear c7
  obtain⟨x5_1,x6_1,x23_1,rfl,rfl,HA,HK1,HO_5,HB⟩:=hrel;cases gk with
  | zero=>exact absurd HA.out (by simp [whole_more.l0])
  | succ k1 =>
   have H:=HA.out;clear HA;simp only [whole_more.l0]at H;by_cases c9:x23_1<(l1.length:Int)
   · rw [if_pos c9]at H;have c9b0:=decide_eq_true c9;clear c9;replace H:=ifs H;obtain⟨c10,H⟩:=H;have c10b0:=decide_eq_true c10;clear c10;replace H:=ifs H;obtain⟨c11,H⟩:=H;have c11b0:=decide_eq_true c11;clear c11;by_cases c12:x23_1<(l0.length:Int)
     · rw [if_pos c12]at H;have c12b0:=decide_eq_true c12;clear c12;replace H:=ifs H;obtain⟨c13,H⟩:=H;have LMc13:=Aside0.mk c13;clear c13;obtain⟨y106,hy106⟩:∃y_:List Int,y_=(x5_1++ [((((rd l1 x23_1)+x6_1)+(rd l0 x23_1))%4294967296)%1000000000]):=⟨_,rfl⟩;replace H:(whole_more.l0 k1 l0 y106 (((((rd l1 x23_1)+x6_1)+(rd l0 x23_1))%4294967296)/1000000000) l1 (l1.length:Int) (wrap64 (x23_1+1)))=some r:=ry hy106 H;have Ny106:=Aside0.mk hy106;clear hy106;have H':=Aside0.mk H;clear H;have p104:0≤(x23_1:Int):=oda;have q104:x23_1<(l1.length:Int):=oda;obtain⟨ad104,e104,hx104_0⟩:=Kd.at_int HR1.out x23_1 p104 q104;cases e104;replace hx104_0:=(HB.out.cell (World.block_lt_of_cell? w _ hx104_0)).trans hx104_0;replace p104:=eq_true p104;replace q104:=eq_true q104;have p105:0≤(x23_1:Int):=oda;have q105:x23_1<(l0.length:Int):=oda;obtain⟨ad105,e105,hx105_0⟩:=Kd.at_int HR0.out x23_1 p105 q105;cases e105;replace hx105_0:=(HB.out.cell (World.block_lt_of_cell? w _ hx105_0)).trans hx105_0;replace p105:=eq_true p105;replace q105:=eq_true q105;go_wp2_with (first|((with_reducible refine gate_builtin (b:=.append) (xs:= #[.tmp 41,.tmp 44]) rfl ?_);at_builtin;refine Kd.R_append (Kd.int .u32) (w0:=w) w.heap.size rfl (.tmp 41) (.tmp 44) 48 95 (.int .u32 0) 4 rfl Tryz.underlying48 info70 rfl (by decide) (by omega) u5 x5_1 (((((rd l1 x23_1)+x6_1)+(rd l0 x23_1))%4294967296)%1000000000) [.int .u32 (((((rd l1 x23_1)+x6_1)+(rd l0 x23_1))%4294967296)%1000000000)] (fun _=>True) (fun _=>False) rfl rfl ?aP (fun _ hk=>hk.elim) ?aF ?aO ?aB ?aS ?aL ?_;(case aP=>exact rfl);(case aB=>exact pb);(case aF=>exact (fun _ _=>trivial));(case aO=>exact (rq HO_5.out));(case aS=>exact (below_size pb));(case aL=>have:=LMc13.out;omega);intro v107 w14 ho hb hg hat;rw [←Ny106.out]at ho;have n0_:=Aside0.mk (hb);have n1_:=Aside0.mk (ho);clear HB;clear HO_5;have HB:=n0_;have HO108:=n1_;clear n0_ n1_;clear ho hb hg hat))
       go_roundg k1
       case measure=>have:=HK1.out;omega
       case rel=>exact ⟨(y106),(((((rd l1 x23_1)+x6_1)+(rd l0 x23_1))%4294967296)/1000000000),(wrap64 (x23_1+1)),pr1,pr1,H',⟨by have:=HK1.out;omega⟩,⟨rq HO108.out⟩,⟨pb⟩⟩
     · rw [if_neg c12]at H;have c12b0:=decide_eq_false c12;clear c12;replace H:=ifs H;obtain⟨c15,H⟩:=H;have LMc15:=Aside0.mk c15;clear c15;obtain⟨y109,hy109⟩:∃y_:List Int,y_=(x5_1++ [(((rd l1 x23_1)+x6_1)%4294967296)%1000000000]):=⟨_,rfl⟩;replace H:(whole_more.l0 k1 l0 y109 ((((rd l1 x23_1)+x6_1)%4294967296)/1000000000) l1 (l1.length:Int) (wrap64 (x23_1+1)))=some r:=ry hy109 H;have Ny109:=Aside0.mk hy109;clear hy109;have H':=Aside0.mk H;clear H;have p104:0≤(x23_1:Int):=oda;have q104:x23_1<(l1.length:Int):=oda;obtain⟨ad104,e104,hx104_0⟩:=Kd.at_int HR1.out x23_1 p104 q104;cases e104;replace hx104_0:=(HB.out.cell (World.block_lt_of_cell? w _ hx104_0)).trans hx104_0;replace p104:=eq_true p104;replace q104:=eq_true q104;go_wp2_with (first|((with_reducible refine gate_builtin (b:=.append) (xs:= #[.tmp 41,.tmp 44]) rfl ?_);at_builtin;refine Kd.R_append (Kd.int .u32) (w0:=w) w.heap.size rfl (.tmp 41) (.tmp 44) 48 95 (.int .u32 0) 4 rfl Tryz.underlying48 info70 rfl (by decide) (by omega) u5 x5_1 ((((rd l1 x23_1)+x6_1)%4294967296)%1000000000) [.int .u32 ((((rd l1 x23_1)+x6_1)%4294967296)%1000000000)] (fun _=>True) (fun _=>False) rfl rfl ?aP (fun _ hk=>hk.elim) ?aF ?aO ?aB ?aS ?aL ?_;(case aP=>exact rfl);(case aB=>exact pb);(case aF=>exact (fun _ _=>trivial));(case aO=>exact (rq HO_5.out));(case aS=>exact (below_size pb));(case aL=>have:=LMc15.out;omega);intro v110 w16 ho hb hg hat;rw [←Ny109.out]at ho;have n0_:=Aside0.mk (hb);have n1_:=Aside0.mk (ho);clear HB;clear HO_5;have HB:=n0_;have HO111:=n1_;clear n0_ n1_;clear ho hb hg hat))
       go_roundg k1
       case measure=>have:=HK1.out;omega
       case rel=>exact ⟨(y109),((((rd l1 x23_1)+x6_1)%4294967296)/1000000000),(wrap64 (x23_1+1)),pr1,pr1,H',⟨by have:=HK1.out;omega⟩,⟨rq HO111.out⟩,⟨pb⟩⟩
   · rw [if_neg c9]at H;have c9b0:=decide_eq_false c9;clear c9;replace H:=ifs H;obtain⟨c17,H⟩:=H;have LMc17:=Aside0.mk c17;clear c17;obtain⟨y112,hy112⟩:∃y_:List Int,y_=(x5_1++ [x6_1]):=⟨_,rfl⟩;replace H:(some y112)=some r:=ry hy112 H;have Ny112:=Aside0.mk hy112;clear hy112;obtain rfl:=Option.some.inj H;go_wp2_with (first|((with_reducible refine gate_builtin (b:=.append) (xs:= #[.tmp 49,.tmp 51]) rfl ?_);at_builtin;refine Kd.R_append (Kd.int .u32) (w0:=w) w.heap.size rfl (.tmp 49) (.tmp 51) 48 95 (.int .u32 0) 4 rfl Tryz.underlying48 info70 rfl (by decide) (by omega) u5 x5_1 x6_1 [.int .u32 x6_1] (fun _=>True) (fun _=>False) rfl rfl ?aP (fun _ hk=>hk.elim) ?aF ?aO ?aB ?aS ?aL ?_;(case aP=>exact rfl);(case aB=>exact pb);(case aF=>exact (fun _ _=>trivial));(case aO=>exact (rq HO_5.out));(case aS=>exact (below_size pb));(case aL=>have:=LMc17.out;omega);intro v113 w18 ho hb hg hat;rw [←Ny112.out]at ho;have n0_:=Aside0.mk (hb);have n1_:=Aside0.mk (ho);clear HB;clear HO_5;have HB:=n0_;have HO114:=n1_;clear n0_ n1_;clear ho hb hg hat))
     go_ret
     exact⟨_,by first|rfl|(simp [errW_none,errW_some] <;> rfl)|(simp only [←hji4];first|rfl|(simp [errW_none,errW_some] <;> rfl))|(simp [*,errW_none,errW_some] <;> rfl),rq HO114.out,pb⟩
end Go.Proofs.YtpdghgfbfmaplaaGreatDoor.PWholeS
end
