/- Lemmas for RatLists. -/
import Derived.Test.YtpdghgfbfmaplaaGreatDoorQC
set_option maxRecDepth 100000
set_option maxHeartbeats 8000000
section
namespace Go.Proofs.YtpdghgfbfmaplaaGreatDoor.PWhole
open Go.RowKit Go.Proofs.YtpdghgfbfmaplaaGreatDoorW.PrintWords Go.Proofs.YtpdghgfbfmaplaaGreatDoorW.PrintLast Go.Proofs.YtpdghgfbfmaplaaGreatDoorW.PrintMore
attribute [local go_sem] max2_int min2_int max_two min_two max_three min_three max_four min_four   -- for this text's walks alone
set_option linter.unusedVariables false
set_option linter.unusedSimpArgs false
def slices_Reverse_uint32_uint32.l0:Nat→List Int→Int→Int→Option (List Int)
 | 0,_,_,_=>none
 | k+1,x0,x2,x3=>if x2<x3 then(if 0≤x3 then(if x3<(x0.length:Int)then (if 0≤x2 then(if x2<(x0.length:Int)then (slices_Reverse_uint32_uint32.l0 k ((x0.set (x2:Int).toNat (rd x0 x3)).set (x3:Int).toNat (rd x0 x2)) (wrap64 (x2+1)) (wrap64 (x3-1)))else (none))else (none))else (none))else (none))else (some x0)
def slices_Reverse_uint32_uint32.f(k:Nat)(l0:List Int):Option (List Int):=slices_Reverse_uint32_uint32.l0 k l0 0 (wrap64 ((l0.length:Int)-1))
def slices_Reverse_uint32_uint32.T3:Bool×List (List Nat×List Nat):=(true,[([],[]),([],[]),([],[]),([],[]),([],[]),([],[]),([4,5],[4,5]),([6],[6]),([],[]),([],[]),([8,9],[8,9]),([10],[10]),([0,1,0,1,4,5,6,7,11],[0,1]),([12,7,0,1,4,5,6,7,11],[7,12]),([2,3,0,1,2,3,4,5,6,7,8,9,10,11,12,13],[2,3]),([14,11,13,0,1,2,3,4,5,6,7,8,9,10,11,12,13],[11,14])])
def slices_Reverse_uint32_uint32.B3:List Nat:=[0,0,0,0,0,0,48,112,0,0,768,1792,4083,8179,16383,32767]
theorem slices_Reverse_uint32_uint32.tab3:rtab .any (opsOf Tryz.f136 3)=slices_Reverse_uint32_uint32.T3:=by kernel_rfl
theorem slices_Reverse_uint32_uint32.bits3:waitsOk slices_Reverse_uint32_uint32.T3.2 slices_Reverse_uint32_uint32.B3=true:=by kernel_rfl
theorem slices_Reverse_uint32_uint32.calls(k:Nat)(P0_:Nat→Prop)(u9000_:Value)(l0:List Int)(r:List Int)(w0 w:World)(hB:Below w0.heap.size w0 w)(ho0:Kd.R (Kd.int .u32) 95 w w0.heap.size P0_ u9000_ l0)(h:slices_Reverse_uint32_uint32.f k l0=some r) :
 Calls Tryz.prog 136 #[u9000_] w fun e w'=>e=.returned (.tuple #[])∧Kd.R (Kd.int .u32) 95 w' w0.heap.size (fun k_=>(P0_ k_∨w.heap.size≤k_)) u9000_ r∧Below w0.heap.size w0 w'∧Kept w w' (fun k_=>P0_ k_):=by
 have HO0:=Aside0.mk (show Kd.R (Kd.int .u32) 95 w w0.heap.size (fun k_=>(P0_ k_∨w.heap.size≤k_)) u9000_ l0 from Kd.R_mono ho0 (fun k_ hk=>(.inl hk)))
 have HK:=Aside0.mk (Kept.refl w (fun k_=>P0_ k_))
 have HW0:=Aside0.mk hB.size
 have HB:=Aside0.mk hB
 clear hB
 have H:(slices_Reverse_uint32_uint32.l0 k l0 0 (wrap64 ((l0.length:Int)-1)))=some r:=h
 clear h
 have H':=Aside0.mk H
 clear H
 obtain⟨Ao2,co2,eo2⟩:=Kd.R_slice HO0.out
 subst eo2
 go_enter Tryz.func136,Tryz.ntmps136
 go_wp2
 go_loopg [2,3] k (fun kq v2 v3 w'=>∃(x0_1:List Int) (x2_1:Int) (x3_1:Int),v2=.int .i64 x2_1∧v3=.int .i64 x3_1∧Aside0 (slices_Reverse_uint32_uint32.l0 kq x0_1 x2_1 x3_1=some r)∧Aside0 (kq≤k)∧Aside0 (Kd.R (Kd.int .u32) 95 w' w0.heap.size (fun k_=>(P0_ k_∨w.heap.size≤k_)) (.slice Ao2 l0.length co2) x0_1)∧Aside0 (Kept w w' (fun k_=>P0_ k_))∧Aside0 (Below w0.heap.size w0 w'))
 case atStart=>exact ⟨(l0),(0),(wrap64 ((l0.length:Int)-1)),pr1,pr1,H',⟨Nat.le_refl _⟩,⟨rq HO0.out⟩,⟨by repeat (first|(with_reducible first|exact HK.out|apply Kept.alloc|apply Kept.drewN|apply Kept.drew)|exact HK.out)⟩,⟨pb⟩⟩
 case round =>
  clear H';try clear p2
  obtain⟨x0_1,x2_1,x3_1,rfl,rfl,HA,HK1,HO_0,HK,HB⟩:=hrel;have hl0_1:=(Kd.R_reads' HO_0.out).1;rw [hl0_1]at HO_0;(try simp only [hl0_1])
  cases gk with
  | zero=>exact absurd HA.out (by simp [slices_Reverse_uint32_uint32.l0])
  | succ k1 =>
   have H:=HA.out;clear HA;simp only [slices_Reverse_uint32_uint32.l0]at H;by_cases c3:x2_1<x3_1
   · rw [if_pos c3]at H;have c3b0:=decide_eq_true c3;clear c3;replace H:=ifs H;obtain⟨c4,H⟩:=H;have c4b0:=decide_eq_true c4;clear c4;replace H:=ifs H;obtain⟨c5,H⟩:=H;have c5b0:=decide_eq_true c5;clear c5;replace H:=ifs H;obtain⟨c6,H⟩:=H;have c6b0:=decide_eq_true c6;clear c6;replace H:=ifs H;obtain⟨c7,H⟩:=H;have c7b0:=decide_eq_true c7;clear c7;obtain⟨y175,hy175⟩:∃y_:List Int,y_=(x0_1.set (x2_1:Int).toNat (rd x0_1 x3_1)):=⟨_,rfl⟩;replace H:(slices_Reverse_uint32_uint32.l0 k1 (y175.set (x3_1:Int).toNat (rd x0_1 x2_1)) (wrap64 (x2_1+1)) (wrap64 (x3_1-1)))=some r:=ry hy175 H;have Ny175:=Aside0.mk hy175;clear hy175;obtain⟨y176,hy176⟩:∃y_:List Int,y_=(y175.set (x3_1:Int).toNat (rd x0_1 x2_1)):=⟨_,rfl⟩;replace H:(slices_Reverse_uint32_uint32.l0 k1 y176 (wrap64 (x2_1+1)) (wrap64 (x3_1-1)))=some r:=ry hy176 H;have Ny176:=Aside0.mk hy176;clear hy176;have H':=Aside0.mk H;clear H;try go_wp2
     have n0_:=Aside0.mk (Kd.R_drew HO_0.out);have n1_:=Aside0.mk (Kept.drew HK.out);have n2_:=Aside0.mk (below_drew1 HB.out);clear HO_0;clear HK;clear HB;have HO_0:=n0_;have HK:=n1_;have HB:=n2_;clear n0_ n1_ n2_;have p173:0≤(x3_1:Int):=oda;have q173:x3_1<(x0_1.length:Int):=oda;obtain⟨ad173,e173,hx173_0⟩:=Kd.at_int (Kd.R_reads' HO_0.out).2.2 x3_1 p173 q173;cases e173;replace p173:=eq_true p173;replace q173:=eq_true q173;have p174:0≤(x2_1:Int):=oda;have q174:x2_1<(x0_1.length:Int):=oda;obtain⟨ad174,e174,hx174_0⟩:=Kd.at_int (Kd.R_reads' HO_0.out).2.2 x2_1 p174 q174;obtain rfl:ad173=ad174:=(by injection e174);replace p174:=eq_true p174;replace q174:=eq_true q174;have p8:0≤(x2_1:Int):=oda;have q8:(x2_1:Int)<((x0_1.length:Int):Int):=oda;obtain⟨go8,co8,eo8,gb8,gl8,cl8,HG8⟩:=Kd.R_form HO_0.out (by omega);(first|cases eo8|(injection eo8 with ea_ en_ ec_;(first|subst ea_|(injection ea_ with ea_;subst ea_));subst ec_;clear en_))
     have GB8:=Aside0.mk gb8;have GG8:=Aside0.mk HG8;clear gb8 gl8 HG8;have HMgo8:=Aside0.mk (show(P0_ go8∨w.heap.size≤go8)from (HO_0.out.1 _ rfl));(first|simp only [add_plain]at hx173_0|skip)
     (first|simp only [add_plain]at hx174_0|skip)
     obtain⟨hx8_0,hf8_0⟩:=Kd.R_celln 0 HO_0.out (x2_1:Int) p8 q8;replace p8:=eq_true p8;replace q8:=eq_true q8;have HP11:=Kd.R_putn HO_0.out (x2_1:Int) (rd x0_1 x3_1);rw [←Ny175.out]at HP11;have HQ11:=Aside0.mk HP11;clear HP11;have p9:0≤(x3_1:Int):=oda;have q9:(x3_1:Int)<((x0_1.length:Int):Int):=oda;obtain⟨hx9_0,hf9_0⟩:=Kd.R_celln 0 HQ11.out (x3_1:Int) p9 q9;replace p9:=eq_true p9;replace q9:=eq_true q9;have HP12:=Kd.R_putn HQ11.out (x3_1:Int) (rd x0_1 x2_1);rw [←Ny176.out]at HP12;have HQ12:=Aside0.mk HP12;clear HP12;refine start_ (n:=16) (S:=fun w'=>w'.cell? ⟨go8,(x3_1).toNat,none⟩=some (.int .u32 (rd x0_1 x3_1))∧w'.cell? ⟨go8,(x2_1).toNat,none⟩=some (.int .u32 (rd x0_1 x2_1))) (ds:=[13,15]) #[false,false,false,false,false,false,false,false,false,false,false,false,false,false,false,false] (by kernel_rfl) rfl rfl ⟨hx173_0,hx174_0⟩ (fun hHeld=>?_);refine with_tabW slices_Reverse_uint32_uint32.tab3 slices_Reverse_uint32_uint32.bits3 (fun HT_ HW_=>?_);generalize wr.drew=w10 at HO_0 HK HB GG8 HQ11 HQ12 hf8_0 hf9_0 hx173_0 hx174_0 hx8_0 hx9_0 hHeld ⊢
     refine pure_ (i:=0) (N:=some 14) (v:=?_) (a':=?_) #[true,false,false,false,false,false,false,false,false,false,false,false,false,false,false,false] rfl rfl (any_of HT_.out (by kernel_rfl)) (fun _ _ _ h=>h) (Or.inl ⟨by rfl,?_⟩) ?_ ?_;rotate_left
     · intro w';go_simp
       with_reducible rfl
     rotate_left
     · simp only [Act.put,List.setIfInBounds_toArray,List.set_cons_zero,List.set_cons_succ,i64_w,i32_w];rfl
     refine pure_ (i:=1) (N:=some 15) (v:=?_) (a':=?_) #[true,true,false,false,false,false,false,false,false,false,false,false,false,false,false,false] rfl rfl (any_of HT_.out (by kernel_rfl)) (fun _ _ _ h=>h) (Or.inl ⟨by rfl,?_⟩) ?_ ?_;rotate_left
     · intro w';go_simp
       with_reducible rfl
     rotate_left
     · simp only [Act.put,List.setIfInBounds_toArray,List.set_cons_zero,List.set_cons_succ,i64_w,i32_w];rfl
     refine pure_ (i:=2) (N:=some 16) (v:=?_) (a':=?_) #[true,true,true,false,false,false,false,false,false,false,false,false,false,false,false,false] rfl rfl (any_of HT_.out (by kernel_rfl)) (fun _ _ _ h=>h) (Or.inl ⟨by rfl,?_⟩) ?_ ?_;rotate_left
     · intro w';go_simp
       with_reducible rfl
     rotate_left
     · simp only [Act.put,List.setIfInBounds_toArray,List.set_cons_zero,List.set_cons_succ,i64_w,i32_w];rfl
     refine pure_ (i:=3) (N:=some 17) (v:=?_) (a':=?_) #[true,true,true,true,false,false,false,false,false,false,false,false,false,false,false,false] rfl rfl (any_of HT_.out (by kernel_rfl)) (fun _ _ _ h=>h) (Or.inl ⟨by rfl,?_⟩) ?_ ?_;rotate_left
     · intro w';go_simp
       with_reducible rfl
     rotate_left
     · simp only [Act.put,List.setIfInBounds_toArray,List.set_cons_zero,List.set_cons_succ,i64_w,i32_w];rfl
     refine pure_ (i:=4) (N:=some 18) (v:=?_) (a':=?_) #[true,true,true,true,true,false,false,false,false,false,false,false,false,false,false,false] rfl rfl (any_of HT_.out (by kernel_rfl)) (fun _ _ _ h=>h) (Or.inl ⟨by rfl,?_⟩) ?_ ?_;rotate_left
     · intro w';go_simp
       with_reducible rfl
     rotate_left
     · simp only [Act.put,List.setIfInBounds_toArray,List.set_cons_zero,List.set_cons_succ,i64_w,i32_w];rfl
     refine pure_ (i:=5) (N:=some 19) (v:=?_) (a':=?_) #[true,true,true,true,true,true,false,false,false,false,false,false,false,false,false,false] rfl rfl (any_of HT_.out (by kernel_rfl)) (fun _ _ _ h=>h) (Or.inl ⟨by rfl,?_⟩) ?_ ?_;rotate_left
     · intro w';go_simp
       with_reducible rfl
     rotate_left
     · simp only [Act.put,List.setIfInBounds_toArray,List.set_cons_zero,List.set_cons_succ,i64_w,i32_w];rfl
     refine pure_ (i:=6) (N:=some 20) (v:=?_) (a':=?_) #[true,true,true,true,true,true,true,false,false,false,false,false,false,false,false,false] rfl rfl (any_of HT_.out (by kernel_rfl)) (fun _ _ _ h=>h) (Or.inl ⟨by rfl,?_⟩) ?_ ?_;rotate_left
     · intro w';go_simp
       with_reducible rfl
     rotate_left
     · simp only [Act.put,List.setIfInBounds_toArray,List.set_cons_zero,List.set_cons_succ,i64_w,i32_w];rfl
     refine pure_ (i:=8) (N:=some 22) (v:=?_) (a':=?_) #[true,true,true,true,true,true,true,false,true,false,false,false,false,false,false,false] rfl rfl (any_of HT_.out (by kernel_rfl)) (fun _ _ _ h=>h) (Or.inl ⟨by rfl,?_⟩) ?_ ?_;rotate_left
     · intro w';go_simp
       with_reducible rfl
     rotate_left
     · simp only [Act.put,List.setIfInBounds_toArray,List.set_cons_zero,List.set_cons_succ,i64_w,i32_w];rfl
     refine pure_ (i:=9) (N:=some 23) (v:=?_) (a':=?_) #[true,true,true,true,true,true,true,false,true,true,false,false,false,false,false,false] rfl rfl (any_of HT_.out (by kernel_rfl)) (fun _ _ _ h=>h) (Or.inl ⟨by rfl,?_⟩) ?_ ?_;rotate_left
     · intro w';go_simp
       with_reducible rfl
     rotate_left
     · simp only [Act.put,List.setIfInBounds_toArray,List.set_cons_zero,List.set_cons_succ,i64_w,i32_w];rfl
     refine pure_ (i:=10) (N:=some 24) (v:=?_) (a':=?_) #[true,true,true,true,true,true,true,false,true,true,true,false,false,false,false,false] rfl rfl (any_of HT_.out (by kernel_rfl)) (fun _ _ _ h=>h) (Or.inl ⟨by rfl,?_⟩) ?_ ?_;rotate_left
     · intro w';go_simp
       with_reducible rfl
     rotate_left
     · simp only [Act.put,List.setIfInBounds_toArray,List.set_cons_zero,List.set_cons_succ,i64_w,i32_w];rfl
     refine take_ (i:=7) (N:=some 21) (v:=?_) (a':=?_) #[true,true,true,true,true,true,true,true,true,true,true,false,false,false,false,false] rfl rfl (take_ofW HT_.out HW_.out (by kernel_rfl)) (fun _ _ _ h=>h) (Or.inl ⟨by rfl,?_⟩) hHeld ?_ ?_;rotate_left
     · rintro w' ⟨s0,s1⟩;go_simp
       with_reducible rfl
     rotate_left
     · simp only [Act.put,List.setIfInBounds_toArray,List.set_cons_zero,List.set_cons_succ,i64_w,i32_w];rfl
     refine take_ (i:=11) (N:=some 25) (v:=?_) (a':=?_) #[true,true,true,true,true,true,true,true,true,true,true,true,false,false,false,false] rfl rfl (take_ofW HT_.out HW_.out (by kernel_rfl)) (fun _ _ _ h=>h) (Or.inl ⟨by rfl,?_⟩) hHeld ?_ ?_;rotate_left
     · rintro w' ⟨s0,s1⟩;go_simp
       with_reducible rfl
     rotate_left
     · simp only [Act.put,List.setIfInBounds_toArray,List.set_cons_zero,List.set_cons_succ,i64_w,i32_w];rfl
     refine pure_ (i:=12) (N:=some 26) (v:=?_) (a':=?_) #[true,true,true,true,true,true,true,true,true,true,true,true,true,false,false,false] rfl rfl (any_of HT_.out (by kernel_rfl)) (fun _ _ _ h=>h) (Or.inl ⟨by rfl,?_⟩) ?_ ?_;rotate_left
     · intro w';go_simp
       with_reducible rfl
     rotate_left
     · simp only [Act.put,List.setIfInBounds_toArray,List.set_cons_zero,List.set_cons_succ,i64_w,i32_w];rfl
     refine last_ (i:=13) (N:=none) #[true,true,true,true,true,true,true,true,true,true,true,true,true,true,false,false] rfl rfl (one_of HT_.out (by kernel_rfl)) (by decide) (fun K hK=>?_);refine skip_ (w1:=?_) (by rfl) rfl ?_ ?_;rotate_left
     · go_simp
       rfl
     refine hK.out _ _ ?_;clear hK K;refine pure_ (i:=14) (N:=some 27) (v:=?_) (a':=?_) #[true,true,true,true,true,true,true,true,true,true,true,true,true,true,true,false] rfl rfl (any_of HT_.out (by kernel_rfl)) (fun _ _ _ h=>h) (Or.inl ⟨by rfl,?_⟩) ?_ ?_;rotate_left
     · intro w';go_simp
       with_reducible rfl
     rotate_left
     · simp only [Act.put,List.setIfInBounds_toArray,List.set_cons_zero,List.set_cons_succ,i64_w,i32_w];rfl
     refine last_ (i:=15) (N:=none) #[true,true,true,true,true,true,true,true,true,true,true,true,true,true,true,true] rfl rfl (one_of HT_.out (by kernel_rfl)) (by decide) (fun K hK=>?_);refine skip_ (w1:=?_) (by rfl) rfl ?_ ?_;rotate_left
     · go_simp
       rfl
     refine hK.out _ _ ?_;clear hK K;refine done_ (done_of HT_.out (by kernel_rfl)) ?_;try go_wp2
     (try simp only [←hl0_1])
     go_roundg k1
     case measure=>have:=HK1.out;omega
     case rel=>exact ⟨(y176),(wrap64 (x2_1+1)),(wrap64 (x3_1-1)),pr1,pr1,H',⟨by have:=HK1.out;omega⟩,⟨by (try simp only [hl0_1]);(with_reducible repeat (first|apply Kd.R_alloc|apply Kd.R_drewN|apply Kd.R_drew));exact HQ12.out⟩,⟨by repeat (first|(with_reducible first|exact HK.out|apply Kept.alloc|apply Kept.drewN|apply Kept.drew|refine Kept.setCell ?_ HMgo8.out _|refine Kept.setCell ?_ HMgo8.out _)|exact HK.out)⟩,⟨by repeat (first|(with_reducible first|exact HB.out|apply below_alloc|apply pw_below_drewN|apply below_drew1|refine below_set ?_ GB8.out|refine below_set ?_ GB8.out)|exact HB.out)⟩⟩
   · rw [if_neg c3]at H;have c3b0:=decide_eq_false c3;clear c3;obtain rfl:=Option.some.inj H;go_wp2
     first|go_end0|((try simp only [Exit.inBlock,Exit.then]);refine bodyPost_ret (results_none rfl _ _ _) rfl ?_)
     exact⟨pr2,(by first|exact(rq HO_0.out)|(simp only [hl0_1];exact(rq HO_0.out))),pb,by repeat (first|(with_reducible first|exact HK.out|apply Kept.alloc|apply Kept.drewN|apply Kept.drew)|exact HK.out)⟩
def whole_Whole_Neg.f(k:Nat)(a0_0:Bool)(l0_1:List Int):Option (Bool×List Int):=(whole_signed.f k l0_1 (!a0_0)).bind fun bt179=>(some (bt179.1,bt179.2))
theorem whole_Whole_Neg.calls(k:Nat)(a0_0:Bool)(P0_1_:Nat→Prop)(A0_1:Option Addr)(c0_1:Nat)(l0_1:List Int)(r1:Bool)(r2:List Int)(w:World)(hs0_1:Kd.V (Kd.int .u32) 95 w w.heap.size (fun k_=>P0_1_ k_) (.slice A0_1 l0_1.length c0_1) l0_1)(h:whole_Whole_Neg.f k a0_0 l0_1=some (r1,r2)) :
 Calls Tryz.prog 93 #[.agg #[.bool a0_0,.slice A0_1 l0_1.length c0_1]] w fun e w'=>∃v1_:Value,e=.returned (.agg #[.bool r1,v1_])∧Kd.V (Kd.int .u32) 95 w' w.heap.size (fun k_=>(P0_1_ k_∨w.heap.size≤k_)) v1_ r2∧Below w.heap.size w w':=by
 have hu50:=Tryz.underlying50
 have HO0_1:=Aside0.mk (show Kd.V (Kd.int .u32) 95 w w.heap.size (fun k_=>(P0_1_ k_∨w.heap.size≤k_)) (.slice A0_1 l0_1.length c0_1) l0_1 from Kd.V_mono hs0_1 (fun k_ hk=>.inl hk))
 have HB:=Aside0.mk (Below.refl w.heap.size w)
 have H:((whole_signed.f k l0_1 (!a0_0)).bind fun bt179=>(some (bt179.1,bt179.2)))=some (r1,r2):=h
 clear h
 replace H:=Option.bind_eq_some_iff.mp H
 obtain⟨⟨t179,t180⟩,A20,H⟩:=H
 replace H:(some (t179,t180))=some (r1,r2):=H
 have A2:=Aside0.mk A20
 clear A20
 simp only [Option.some.injEq,Prod.mk.injEq]at H
 obtain⟨rfl,rfl⟩:=H
 go_enter Tryz.func93,Tryz.ntmps93
 go_wp2_with (first|((with_reducible refine gate_dst (N:=1) rfl ?_);refine box_event ?hg (N:=1) ?hd (cs:= #[.bool a0_0,.slice A0_1 l0_1.length c0_1]) (t:=50) ?hr ?_;(case hd=>rfl);(case hg=>rfl);(case hr=>first|(go_simp;done)|(go_simp;rfl));intro gb177 hg w3 hbox hb;have n0_:=Aside0.mk (Kd.V_below (Kd.V_elderB (by(with_reducible repeat (first|apply Kd.V_alloc|apply Kd.V_drewN|apply Kd.V_drew));exact HO0_1.out) gb177 (Nat.le_of_eq hg.symm)) hb);have n1_:=Aside0.mk (below_step pb hb);have n2_:=Aside0.mk (hbox);have n3_:=Aside0.mk ((by rw [hg];exact(below_size pb):w.heap.size≤gb177));have n4_:=Aside0.mk ((by rw [hg];exact(below_size pb):w.heap.size≤gb177));clear HO0_1;clear HB;have HO0_1:=n0_;have HB:=n1_;have BK177:=n2_;have GW177:=n3_;have GE177:=n4_;clear n0_ n1_ n2_ n3_ n4_;clear hb hbox hg)|((with_reducible refine gate_dst (N:=2) rfl ?_);refine box_event ?hg (N:=2) ?hd (cs:= #[.bool false,.slice none 0 0]) (t:=50) ?hr ?_;(case hd=>rfl);(case hg=>rfl);(case hr=>first|(go_simp;done)|(go_simp;rfl));intro gb178 hg w4 hbox hb;have n0_:=Aside0.mk (Kd.V_below (Kd.V_elderB (by(with_reducible repeat (first|apply Kd.V_alloc|apply Kd.V_drewN|apply Kd.V_drew));exact HO0_1.out) gb178 (Nat.le_of_eq hg.symm)) hb);have n1_:=Aside0.mk (blk_below (g:=gb177) (o:=.cells #[.bool a0_0,.slice A0_1 l0_1.length c0_1] 50 (0,0)) (rbk BK177.out) hb);have n2_:=Aside0.mk (below_step (by repeat (first|(with_reducible first|exact HB.out|apply below_alloc|apply pw_below_drewN|apply below_drew1|refine below_set ?_ GE177.out)|exact HB.out)) hb);have n3_:=Aside0.mk (hbox);have n4_:=Aside0.mk ((by rw [hg];exact(below_size (by repeat (first|(with_reducible first|exact HB.out|apply below_alloc|apply pw_below_drewN|apply below_drew1|refine below_set ?_ GE177.out)|exact HB.out))):w.heap.size≤gb178));have n5_:=Aside0.mk ((by rw [hg];exact(below_size (by repeat (first|(with_reducible first|exact HB.out|apply below_alloc|apply pw_below_drewN|apply below_drew1|refine below_set ?_ GE177.out)|exact HB.out))):w.heap.size≤gb178));have n6_:=Aside0.mk ((by rw [hg];exact Nat.ne_of_lt (blk_lt (g:=gb177) (o:=.cells #[.bool a0_0,.slice A0_1 l0_1.length c0_1] 50 (0,0)) (rbk BK177.out)):gb177≠gb178));have n7_:=Aside0.mk ((by rw [hg];exact Nat.ne_of_gt (blk_lt (g:=gb177) (o:=.cells #[.bool a0_0,.slice A0_1 l0_1.length c0_1] 50 (0,0)) (rbk BK177.out)):gb178≠gb177));clear HO0_1;clear BK177;clear HB;have HO0_1:=n0_;have BK177:=n1_;have HB:=n2_;have BK178:=n3_;have GW178:=n4_;have GE178:=n5_;have NB177_178:=n6_;have NB178_177:=n7_;clear n0_ n1_ n2_ n3_ n4_ n5_ n6_ n7_;clear hb hbox hg;have hnb5:=NB177_178.out;have hnc5:=NB178_177.out;have hcz6_0:w4.cell? ⟨gb177,0,none⟩=some (.bool a0_0):=(blk_cell BK177.out 0).trans rfl;have hcz6_1:w4.cell? ⟨gb177,1,none⟩=some (.slice A0_1 l0_1.length c0_1):=(blk_cell BK177.out 1).trans rfl;have hfz6_0:=blk_frozen BK177.out 0;have hfz6_1:=blk_frozen BK177.out 1)|((with_reducible refine gate_callee (f:=112) rfl ?_);refine goesL_ (some 8) rfl rfl Tryz.func112 (by kernel_rfl) rfl #[.slice A0_1 l0_1.length c0_1,.bool (!a0_0)] rfl (by(try simp only [List.map_toArray,List.map_cons,List.map_nil]);first|done|rfl|(simp only [List.length_drop,List.length_take];rfl)) ?_;(with_reducible refine(whole_signed.calls k (fun k_=>(((P0_1_ k_∨w.heap.size≤k_)∧k_≠gb177)∧k_≠gb178)) _ _ l0_1 (!a0_0) t179 t180 _ ?side1 A2.out).mono ?_);(case side1=>exact HO0_1.out);rintro e w7 ⟨v181,rfl,ho0,hb⟩;refine⟨_,rfl,?_⟩;have n0_:=Aside0.mk (Kd.V_below (by(with_reducible repeat (first|apply Kd.V_alloc|apply Kd.V_drewN|apply Kd.V_drew));exact HO0_1.out) hb);have n1_:=Aside0.mk (Kd.V_lower (Kd.V_mono (ok':=fun k_=>(P0_1_ k_∨w.heap.size≤k_)∧k_≠gb177∧k_≠gb178) ho0 (fun k_ hk_=>⟨Or.elim hk_ (fun hs_=>hs_.1.1) (fun hn_=>(.inr (Nat.le_trans (below_size (by repeat (first|(with_reducible first|exact HB.out|apply below_alloc|apply pw_below_drewN|apply below_drew1|refine below_set ?_ GE177.out|refine below_set ?_ GE178.out)|exact HB.out))) hn_))),Or.elim hk_ (fun hs_=>hs_.1.2) (fun hn_=>(Kd.freshB (g:=gb177) (o:=.cells #[.bool a0_0,.slice A0_1 l0_1.length c0_1] 50 (0,0)) (rbk BK177.out) k_ hn_)),Or.elim hk_ (fun hs_=>hs_.2) (fun hn_=>(Kd.freshB (g:=gb178) (o:=.cells #[.bool false,.slice none 0 0] 50 (0,0)) (rbk BK178.out) k_ hn_))⟩)) (below_size (by repeat (first|(with_reducible first|exact HB.out|apply below_alloc|apply pw_below_drewN|apply below_drew1|refine below_set ?_ GE177.out|refine below_set ?_ GE178.out)|exact HB.out))));have n2_:=Aside0.mk (blk_below (g:=gb177) (o:=.cells #[.bool a0_0,.slice A0_1 l0_1.length c0_1] 50 (0,0)) (rbk BK177.out) hb);have n3_:=Aside0.mk (blk_below (g:=gb178) (o:=.cells #[.bool false,.slice none 0 0] 50 (0,0)) (rbk BK178.out) hb);have n4_:=Aside0.mk (below_step (by repeat (first|(with_reducible first|exact HB.out|apply below_alloc|apply pw_below_drewN|apply below_drew1|refine below_set ?_ GE177.out|refine below_set ?_ GE178.out)|exact HB.out)) hb);clear HO0_1;clear BK177;clear BK178;clear HB;have HO0_1:=n0_;have HO182:=n1_;have BK177:=n2_;have BK178:=n3_;have HB:=n4_;clear n0_ n1_ n2_ n3_ n4_;(try clear hb);(try clear hb2);(try clear hk);(try clear hi);(try clear ho0);have hcz8_0:w7.cell? ⟨gb178,0,none⟩=some (.bool false):=(blk_cell BK178.out 0).trans rfl;have hcz8_1:w7.cell? ⟨gb178,1,none⟩=some (.slice none 0 0):=(blk_cell BK178.out 1).trans rfl;have hfz8_0:=blk_frozen BK178.out 0;have hfz8_1:=blk_frozen BK178.out 1;obtain⟨Ao9,co9,eo9⟩:=Kd.V_slice HO182.out;subst eo9))
 refine bodyPost_ret (results_cell_row rfl _ _ gb178 50 #[.bool t179,.slice Ao9 t180.length co9] (0,0) _ rfl (by(with_reducible repeat (first|refine blk_drewN ?_ _|refine blk_drew ?_|refine blk_alloc ?_ _));refine blk_put (cs:= #[.bool t179,.slice none 0 0]) ?_ 1 _ pr1;(with_reducible repeat (first|refine blk_drewN ?_ _|refine blk_drew ?_|refine blk_alloc ?_ _));refine blk_put (cs:= #[.bool false,.slice none 0 0]) ?_ 0 _ pr1;(with_reducible repeat (first|refine blk_drewN ?_ _|refine blk_drew ?_|refine blk_alloc ?_ _));exact BK178.out) Tryz.underlying50 rfl (by kernel_rfl)) rfl ?_
 exact⟨_,pr2,by (with_reducible repeat (first|apply Kd.V_alloc|apply Kd.V_drewN|apply Kd.V_drew));exact Kd.V_mono (Kd.V_far (p:=⟨gb178,1,none⟩) (Kd.V_far (p:=⟨gb178,0,none⟩) (Kd.V_mono HO182.out (fun k_ hk=>(⟨hk,hk.2.2⟩:_∧k_≠gb178))) (fun _ hk=>hk.2) (.bool t179)) (fun _ hk=>hk.2) (.slice Ao9 t180.length co9)) (fun _ hk=>hk.1.1),by repeat (first|(with_reducible first|exact HB.out|apply below_alloc|apply pw_below_drewN|apply below_drew1|refine below_set ?_ GE177.out|refine below_set ?_ GE178.out)|exact HB.out)⟩
def whole_Whole_One.f(a0_0:Bool)(l0_1:List Int):Option (Bool):=if a0_0=true then(some false)else (if (l0_1.length:Int)=1 then(if 0<(l0_1.length:Int)then (some ((rd l0_1 0)==1))else (none))else (some false))
theorem whole_Whole_One.calls(a0_0:Bool)(A0_1:Option Addr)(c0_1:Nat)(l0_1:List Int)(r:Bool)(w:World)(hr0_1:Kd.C (Kd.int .u32) w A0_1 l0_1.length l0_1)(hc0_1:l0_1.length≤c0_1)(h:whole_Whole_One.f a0_0 l0_1=some r) :
 Calls Tryz.prog 99 #[.agg #[.bool a0_0,.slice A0_1 l0_1.length c0_1]] w fun e w'=>e=.returned (.bool r)∧Below w.heap.size w w':=by
 have hu50:=Tryz.underlying50
 have HR0_1:=Aside0.mk hr0_1
 have HC0_1:=Aside0.mk hc0_1
 clear hr0_1 hc0_1
 have HB:=Aside0.mk (Below.refl w.heap.size w)
 have H:(if a0_0=true then(some false)else (if (l0_1.length:Int)=1 then(if 0<(l0_1.length:Int)then (some ((rd l0_1 0)==1))else (none))else (some false)))=some r:=h
 clear h
 by_cases c2:a0_0=true
 · subst c2;have H1:(some false)=some r:=by rw [if_pos rfl]at H;exact H
   clear H;have H:=H1;clear H1;obtain rfl:=Option.some.inj H;go_enter Tryz.func99,Tryz.ntmps99
   go_wp2_with (first|((with_reducible refine gate_dst (N:=1) rfl ?_);(try (refine gate_guard (by rfl) ?_;dsimp only));refine box_event ?hg (N:=1) ?hd (cs:= #[.bool true,.slice A0_1 l0_1.length c0_1]) (t:=50) ?hr ?_;(case hd=>rfl);(case hg=>rfl);(case hr=>first|(go_simp;done)|(go_simp;rfl));intro gb183 hg w3 hbox hb;have n0_:=Aside0.mk (below_step pb hb);have n1_:=Aside0.mk (hbox);have n2_:=Aside0.mk ((by rw [hg];exact(below_size pb):w.heap.size≤gb183));have n3_:=Aside0.mk ((by rw [hg];exact(below_size pb):w.heap.size≤gb183));clear HB;have HB:=n0_;have BK183:=n1_;have GW183:=n2_;have GE183:=n3_;clear n0_ n1_ n2_ n3_;clear hb hbox hg;have hcz4_0:w3.cell? ⟨gb183,0,none⟩=some (.bool true):=(blk_cell BK183.out 0).trans rfl;have hcz4_1:w3.cell? ⟨gb183,1,none⟩=some (.slice A0_1 l0_1.length c0_1):=(blk_cell BK183.out 1).trans rfl;have hfz4_0:=blk_frozen BK183.out 0;have hfz4_1:=blk_frozen BK183.out 1))
   go_ret
   exact⟨pr2,by repeat (first|(with_reducible first|exact HB.out|apply below_alloc|apply pw_below_drewN|apply below_drew1|refine below_set ?_ GE183.out)|exact HB.out)⟩
 · replace c2:=Bool.eq_false_iff.mpr c2;subst c2;have H1:(if (l0_1.length:Int)=1 then(if 0<(l0_1.length:Int)then (some ((rd l0_1 0)==1))else (none))else (some false))=some r:=by rw [if_neg (show ¬(false=true) by decide)]at H;exact H
   clear H;have H:=H1;clear H1;by_cases c5:(l0_1.length:Int)=1
   · rw [if_pos c5]at H;have c5b0:((l0_1.length:Int)==1)=true:=beq_iff_eq.mpr c5;have c5b1:((l0_1.length:Int) !=1)=false:=bne_eq_false_iff_eq.mpr c5;clear c5;replace H:=ifs H;obtain⟨c6,H⟩:=H;have c6b0:=decide_eq_true c6;have c6b1:decide (0<l0_1.length)=true:=decide_eq_true (by omega);clear c6;obtain rfl:=Option.some.inj H;go_enter Tryz.func99,Tryz.ntmps99
     go_wp2_with (first|((with_reducible refine gate_dst (N:=1) rfl ?_);(try (refine gate_guard (by rfl) ?_;dsimp only));refine box_event ?hg (N:=1) ?hd (cs:= #[.bool false,.slice A0_1 l0_1.length c0_1]) (t:=50) ?hr ?_;(case hd=>rfl);(case hg=>rfl);(case hr=>first|(go_simp;done)|(go_simp;rfl));intro gb183 hg w7 hbox hb;have n0_:=Aside0.mk (below_step pb hb);have n1_:=Aside0.mk (hbox);have n2_:=Aside0.mk ((by rw [hg];exact(below_size pb):w.heap.size≤gb183));have n3_:=Aside0.mk ((by rw [hg];exact(below_size pb):w.heap.size≤gb183));clear HB;have HB:=n0_;have BK183:=n1_;have GW183:=n2_;have GE183:=n3_;clear n0_ n1_ n2_ n3_;clear hb hbox hg;have hcz8_0:w7.cell? ⟨gb183,0,none⟩=some (.bool false):=(blk_cell BK183.out 0).trans rfl;have hcz8_1:w7.cell? ⟨gb183,1,none⟩=some (.slice A0_1 l0_1.length c0_1):=(blk_cell BK183.out 1).trans rfl;have hfz8_0:=blk_frozen BK183.out 0;have hfz8_1:=blk_frozen BK183.out 1;have p184:0≤(0:Int):=(by omega);have q184:0<(l0_1.length:Int):=oda;obtain⟨ad184,e184,hx184_0⟩:=Kd.at_int HR0_1.out 0 p184 q184;cases e184;have qi184:(0<l0_1.length)=True:=eq_true (by omega);(try rw [show ((0:Int)).toNat=0 from rfl]at hx184_0);(try rw [Addr.add_zero']at hx184_0);replace hx184_0:=(HB.out.cell (World.block_lt_of_cell? w _ hx184_0)).trans hx184_0;replace p184:=eq_true p184;replace q184:=eq_true q184))
     go_ret
     exact⟨pr2,by repeat (first|(with_reducible first|exact HB.out|apply below_alloc|apply pw_below_drewN|apply below_drew1|refine below_set ?_ GE183.out)|exact HB.out)⟩
   · rw [if_neg c5]at H;have c5b0:((l0_1.length:Int)==1)=false:=beq_eq_false_iff_ne.mpr c5;have c5b1:((l0_1.length:Int) !=1)=true:=bne_iff_ne.mpr c5;obtain rfl:=Option.some.inj H;go_enter Tryz.func99,Tryz.ntmps99
     go_wp2_with (first|((with_reducible refine gate_dst (N:=1) rfl ?_);(try (refine gate_guard (by rfl) ?_;dsimp only));refine box_event ?hg (N:=1) ?hd (cs:= #[.bool false,.slice A0_1 l0_1.length c0_1]) (t:=50) ?hr ?_;(case hd=>rfl);(case hg=>rfl);(case hr=>first|(go_simp;done)|(go_simp;rfl));intro gb183 hg w9 hbox hb;have n0_:=Aside0.mk (below_step pb hb);have n1_:=Aside0.mk (hbox);have n2_:=Aside0.mk ((by rw [hg];exact(below_size pb):w.heap.size≤gb183));have n3_:=Aside0.mk ((by rw [hg];exact(below_size pb):w.heap.size≤gb183));clear HB;have HB:=n0_;have BK183:=n1_;have GW183:=n2_;have GE183:=n3_;clear n0_ n1_ n2_ n3_;clear hb hbox hg;have hcz10_0:w9.cell? ⟨gb183,0,none⟩=some (.bool false):=(blk_cell BK183.out 0).trans rfl;have hcz10_1:w9.cell? ⟨gb183,1,none⟩=some (.slice A0_1 l0_1.length c0_1):=(blk_cell BK183.out 1).trans rfl;have hfz10_0:=blk_frozen BK183.out 0;have hfz10_1:=blk_frozen BK183.out 1))
     go_ret
     exact⟨pr2,by repeat (first|(with_reducible first|exact HB.out|apply below_alloc|apply pw_below_drewN|apply below_drew1|refine below_set ?_ GE183.out)|exact HB.out)⟩
end Go.Proofs.YtpdghgfbfmaplaaGreatDoor.PWhole
end
