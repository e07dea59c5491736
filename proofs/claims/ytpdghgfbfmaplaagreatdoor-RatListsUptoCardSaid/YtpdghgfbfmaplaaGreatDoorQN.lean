/- Lemmas for RatLists. -/
import Derived.Test.YtpdghgfbfmaplaaGreatDoorProg
import Derived.Test.YtpdghgfbfmaplaaGreatDoorQA
import Derived.Laws.StructEq
set_option maxRecDepth 100000
set_option maxHeartbeats 8000000
section
namespace Go.Proofs.YtpdghgfbfmaplaaGreatDoor.PRef
open Go.RowKit Go.Proofs.YtpdghgfbfmaplaaGreatDoorW.PrintWords Go.Proofs.YtpdghgfbfmaplaaGreatDoorW.PrintLast Go.Proofs.YtpdghgfbfmaplaaGreatDoorW.PrintMore
attribute [local go_sem] max2_int min2_int max_two min_two max_three min_three max_four min_four   -- for this text's walks alone
set_option linter.unusedVariables false
set_option linter.unusedSimpArgs false
def errW:Option Int→Value
 | none=>.nilIface
 | some c=>.iface 0 (.int .i64 c)
theorem errW_none:errW none=.nilIface:=rfl
theorem errW_some(c:Int):errW (some c)=.iface 0 (.int .i64 c):=rfl
theorem info3:(Tryz.prog.info? 3).map (fun i=>(i.zero,i.size,i.bytes))=some (some (.int .i64 0),1,8):=by kernel_rfl
theorem info5:(Tryz.prog.info? 5).map (fun i=>(i.zero,i.size,i.bytes))=some (some (.int .u8 0),1,1):=by kernel_rfl
def linkworkref01_natOf.l0:Nat→Int→List Int→Option (List Int)
 | 0,_,_=>none
 | k+1,x0,x3=>if x0>0 then(if x3.length<17592186044416 then(linkworkref01_natOf.l0 k (IntKind.u64.wrap (Int.tdiv x0 10000)) (x3++ [wrap64 (Int.tmod x0 10000)]))else (none))else (some x3)
def linkworkref01_natOf.f(k:Nat)(a0:Int):Option (List Int):=linkworkref01_natOf.l0 k a0 ([]:List Int)
theorem linkworkref01_natOf.calls(k:Nat)(a0:Int)(r:List Int)(w:World)(h:linkworkref01_natOf.f k a0=some r) :
 Calls Tryz.prog 66 #[.int .u64 a0] w fun e w'=>∃v0_:Value,e=.returned (v0_)∧Kd.R (Kd.int .i64) 3 w' w.heap.size (fun _=>True) v0_ r∧Below w.heap.size w w':=by
 have HB:=Aside0.mk (Below.refl w.heap.size w)
 have H:(linkworkref01_natOf.l0 k a0 ([]:List Int))=some r:=h
 clear h
 have H':=Aside0.mk H
 clear H
 go_enter Tryz.func66,Tryz.ntmps66
 go_wp2
 go_loopg [0,3] k (fun kq v0 v3 w'=>∃(x0_1:Int) (x3_1:List Int),v0=.int .u64 x0_1∧Aside0 (linkworkref01_natOf.l0 kq x0_1 x3_1=some r)∧Aside0 (kq≤k)∧Aside0 (Kd.R (Kd.int .i64) 3 w' w.heap.size (fun _=>True) v3 x3_1)∧Aside0 (Below w.heap.size w w'))
 case atStart=>exact ⟨(a0),(([]:List Int)),pr1,H',⟨Nat.le_refl _⟩,⟨by first|exact Kd.R_nil _ _ _ _ _|exact Kd.N_nil _ _ _ _ _|exact Kd.V_nil _ _ _ _ _|exact Kd.Q_nil _ _ _ _ _|exact Kd.S_nil _ _ _ _ _⟩,⟨pb⟩⟩
 case round =>
  clear H';obtain⟨x0_1,x3_1,rfl,HA,HK1,HO_3,HB⟩:=hrel;cases gk with
  | zero=>exact absurd HA.out (by simp [linkworkref01_natOf.l0])
  | succ k1 =>
   have H:=HA.out;clear HA;simp only [linkworkref01_natOf.l0]at H;by_cases c2:x0_1>0
   · rw [if_pos c2]at H;have c2b0:=decide_eq_true c2;clear c2;replace H:=ifs H;obtain⟨c3,H⟩:=H;have LMc3:=Aside0.mk c3;clear c3;obtain⟨y101,hy101⟩:∃y_:List Int,y_=(x3_1++ [wrap64 (Int.tmod x0_1 10000)]):=⟨_,rfl⟩;replace H:(linkworkref01_natOf.l0 k1 (IntKind.u64.wrap (Int.tdiv x0_1 10000)) y101)=some r:=ry hy101 H;have Ny101:=Aside0.mk hy101;clear hy101;have H':=Aside0.mk H;clear H;go_wp2_with (first|((with_reducible refine gate_builtin (b:=.append) (xs:= #[.tmp 6,.tmp 10]) rfl ?_);at_builtin;refine Kd.R_append (Kd.int .i64) (w0:=w) w.heap.size rfl (.tmp 6) (.tmp 10) 58 3 (.int .i64 0) 8 rfl Tryz.underlying58 info3 rfl (by decide) (by omega) u3 x3_1 (wrap64 (Int.tmod x0_1 10000)) [.int .i64 (wrap64 (Int.tmod x0_1 10000))] (fun _=>True) (fun _=>False) rfl rfl ?aP (fun _ hk=>hk.elim) ?aF ?aO ?aB ?aS ?aL ?_;(case aP=>exact rfl);(case aB=>exact pb);(case aF=>exact (fun _ _=>trivial));(case aO=>exact (rq HO_3.out));(case aS=>exact (below_size pb));(case aL=>have:=LMc3.out;omega);intro v102 w4 ho hb hg hat;rw [←Ny101.out]at ho;have n0_:=Aside0.mk (hb);have n1_:=Aside0.mk (ho);clear HB;clear HO_3;have HB:=n0_;have HO103:=n1_;clear n0_ n1_;clear ho hb hg hat))
     go_roundg k1
     case measure=>have:=HK1.out;omega
     case rel=>exact ⟨(IntKind.u64.wrap (Int.tdiv x0_1 10000)),(y101),pr1,H',⟨by have:=HK1.out;omega⟩,⟨rq HO103.out⟩,⟨pb⟩⟩
   · rw [if_neg c2]at H;have c2b0:=decide_eq_false c2;clear c2;obtain rfl:=Option.some.inj H;go_wp2
     go_ret
     exact⟨_,pr2,rq HO_3.out,pb⟩
def linkworkref01_cmpNat.l0:Nat→List Int→List Int→Int→Option (Int)
 | 0,_,_,_=>none
 | k+1,x0,x1,x5=>if x5≥0 then(if 0≤x5 then(if x5<(x0.length:Int)then (if x5<(x1.length:Int)then (if (rd x0 x5)<(rd x1 x5)then (some (-1))else (if (rd x0 x5)>(rd x1 x5)then (some 1)else (linkworkref01_cmpNat.l0 k x0 x1 (wrap64 (x5-1)))))else (none))else (none))else (none))else (some 0)
def linkworkref01_cmpNat.f(k:Nat)(l0:List Int)(l1:List Int):Option (Int):=if (l0.length:Int)=(l1.length:Int)then (linkworkref01_cmpNat.l0 k l0 l1 (wrap64 ((l0.length:Int)-1)))else (if (l0.length:Int)<(l1.length:Int)then (some (-1))else (some 1))
theorem linkworkref01_cmpNat.calls(k:Nat)(A0:Option Addr)(c0:Nat)(l0:List Int)(A1:Option Addr)(c1:Nat)(l1:List Int)(r:Int)(w:World)(hr0:Kd.C (Kd.int .i64) w A0 l0.length l0)(hc0:l0.length≤c0)(hr1:Kd.C (Kd.int .i64) w A1 l1.length l1)(hc1:l1.length≤c1)(h:linkworkref01_cmpNat.f k l0 l1=some r) :
 Calls Tryz.prog 96 #[.slice A0 l0.length c0,.slice A1 l1.length c1] w fun e w'=>e=.returned (.int .i64 r)∧Drawn0 w w':=by
 have HR0:=Aside0.mk hr0
 have HC0:=Aside0.mk hc0
 clear hr0 hc0
 have HR1:=Aside0.mk hr1
 have HC1:=Aside0.mk hc1
 clear hr1 hc1
 have H:(if (l0.length:Int)=(l1.length:Int)then (linkworkref01_cmpNat.l0 k l0 l1 (wrap64 ((l0.length:Int)-1)))else (if (l0.length:Int)<(l1.length:Int)then (some (-1))else (some 1)))=some r:=h
 clear h
 by_cases c3:(l0.length:Int)=(l1.length:Int)
 · rw [if_pos c3]at H;have c3b0:((l0.length:Int)==(l1.length:Int))=true:=beq_iff_eq.mpr c3;have c3b1:((l0.length:Int) !=(l1.length:Int))=false:=bne_eq_false_iff_eq.mpr c3;have c3b2:(l0.length==l1.length)=true:=by first|simpa using c3|(simp at c3 ⊢;omega)
   clear c3;have H':=Aside0.mk H;clear H;go_enter Tryz.func96,Tryz.ntmps96
   go_wp2
   repeat (go_quiet (fail);try go_wp2)
   go_loopg [5] k (fun kq v5 w'=>∃(x5_1:Int),v5=.int .i64 x5_1∧Aside0 (linkworkref01_cmpNat.l0 kq l0 l1 x5_1=some r)∧Aside0 (kq≤k)∧Drawn0 w w')
   case atStart=>exact ⟨(wrap64 ((l0.length:Int)-1)),pr1,H',⟨Nat.le_refl _⟩,by repeat (first|exact Drawn0.refl _|apply Drawn0.step)⟩
   case round =>
    clear H';try clear c1
    try clear p2
    try clear c3
    try clear c3b0
    try clear c3b1
    try clear c3b2
    obtain⟨x5_1,rfl,HA,HK1,⟨m1,rfl⟩⟩:=hrel;cases gk with
    | zero=>exact absurd HA.out (by simp [linkworkref01_cmpNat.l0])
    | succ k1 =>
     have H:=HA.out;clear HA;simp only [linkworkref01_cmpNat.l0]at H;by_cases c4:x5_1≥0
     · rw [if_pos c4]at H;have c4b0:=decide_eq_true c4;clear c4;replace H:=ifs H;obtain⟨c5,H⟩:=H;have c5b0:=decide_eq_true c5;clear c5;replace H:=ifs H;obtain⟨c6,H⟩:=H;have c6b0:=decide_eq_true c6;clear c6;replace H:=ifs H;obtain⟨c7,H⟩:=H;have c7b0:=decide_eq_true c7;clear c7;by_cases c8:(rd l0 x5_1)<(rd l1 x5_1)
       · rw [if_pos c8]at H;have c8b0:=decide_eq_true c8;clear c8;obtain rfl:=Option.some.inj H;have p104:0≤(x5_1:Int):=oda;have q104:x5_1<(l0.length:Int):=oda;obtain⟨ad104,e104,hx104_0⟩:=Kd.at_int HR0.out x5_1 p104 q104;cases e104;replace p104:=eq_true p104;replace q104:=eq_true q104;have p105:0≤(x5_1:Int):=oda;have q105:x5_1<(l1.length:Int):=oda;obtain⟨ad105,e105,hx105_0⟩:=Kd.at_int HR1.out x5_1 p105 q105;cases e105;replace p105:=eq_true p105;replace q105:=eq_true q105;go_wp2
         repeat (go_quiet (fail);try go_wp2)
         go_ret
         exact⟨pr1,by repeat (first|exact Drawn0.refl _|apply Drawn0.step)⟩
       · rw [if_neg c8]at H;have c8b0:=decide_eq_false c8;clear c8;by_cases c9:(rd l0 x5_1)>(rd l1 x5_1)
         · rw [if_pos c9]at H;have c9b0:=decide_eq_true c9;clear c9;obtain rfl:=Option.some.inj H;have p104:0≤(x5_1:Int):=oda;have q104:x5_1<(l0.length:Int):=oda;obtain⟨ad104,e104,hx104_0⟩:=Kd.at_int HR0.out x5_1 p104 q104;cases e104;replace p104:=eq_true p104;replace q104:=eq_true q104;have p105:0≤(x5_1:Int):=oda;have q105:x5_1<(l1.length:Int):=oda;obtain⟨ad105,e105,hx105_0⟩:=Kd.at_int HR1.out x5_1 p105 q105;cases e105;replace p105:=eq_true p105;replace q105:=eq_true q105;have p106:0≤(x5_1:Int):=oda;have q106:x5_1<(l0.length:Int):=oda;obtain⟨ad106,e106,hx106_0⟩:=Kd.at_int HR0.out x5_1 p106 q106;obtain rfl:ad104=ad106:=(by injection e106);replace p106:=eq_true p106;replace q106:=eq_true q106;have p107:0≤(x5_1:Int):=oda;have q107:x5_1<(l1.length:Int):=oda;obtain⟨ad107,e107,hx107_0⟩:=Kd.at_int HR1.out x5_1 p107 q107;obtain rfl:ad105=ad107:=(by injection e107);replace p107:=eq_true p107;replace q107:=eq_true q107;go_wp2
           repeat (go_quiet (fail);try go_wp2)
           go_ret
           exact⟨pr1,by repeat (first|exact Drawn0.refl _|apply Drawn0.step)⟩
         · rw [if_neg c9]at H;have c9b0:=decide_eq_false c9;clear c9;have H':=Aside0.mk H;clear H;have p104:0≤(x5_1:Int):=oda;have q104:x5_1<(l0.length:Int):=oda;obtain⟨ad104,e104,hx104_0⟩:=Kd.at_int HR0.out x5_1 p104 q104;cases e104;replace p104:=eq_true p104;replace q104:=eq_true q104;have p105:0≤(x5_1:Int):=oda;have q105:x5_1<(l1.length:Int):=oda;obtain⟨ad105,e105,hx105_0⟩:=Kd.at_int HR1.out x5_1 p105 q105;cases e105;replace p105:=eq_true p105;replace q105:=eq_true q105;have p106:0≤(x5_1:Int):=oda;have q106:x5_1<(l0.length:Int):=oda;obtain⟨ad106,e106,hx106_0⟩:=Kd.at_int HR0.out x5_1 p106 q106;obtain rfl:ad104=ad106:=(by injection e106);replace p106:=eq_true p106;replace q106:=eq_true q106;have p107:0≤(x5_1:Int):=oda;have q107:x5_1<(l1.length:Int):=oda;obtain⟨ad107,e107,hx107_0⟩:=Kd.at_int HR1.out x5_1 p107 q107;obtain rfl:ad105=ad107:=(by injection e107);replace p107:=eq_true p107;replace q107:=eq_true q107;go_wp2
           repeat (go_quiet (fail);try go_wp2)
           go_roundg k1
           case measure=>have:=HK1.out;omega
           case rel=>exact ⟨(wrap64 (x5_1-1)),pr1,H',⟨by have:=HK1.out;omega⟩,by repeat (first|exact Drawn0.refl _|apply Drawn0.step)⟩
     · rw [if_neg c4]at H;have c4b0:=decide_eq_false c4;clear c4;obtain rfl:=Option.some.inj H;go_wp2
       repeat (go_quiet (fail);try go_wp2)
       go_ret
       exact⟨pr1,by repeat (first|exact Drawn0.refl _|apply Drawn0.step)⟩
 · rw [if_neg c3]at H;have c3b0:((l0.length:Int)==(l1.length:Int))=false:=beq_eq_false_iff_ne.mpr c3;have c3b1:((l0.length:Int) !=(l1.length:Int))=true:=bne_iff_ne.mpr c3;have c3b2:(l0.length==l1.length)=false:=by first|simpa using c3|(simp at c3 ⊢;omega)
   by_cases c10:(l0.length:Int)<(l1.length:Int)
   · rw [if_pos c10]at H;have c10b0:=decide_eq_true c10;have c10b1:decide (l0.length<l1.length)=true:=decide_eq_true (Int.ofNat_lt.mp c10);clear c10;obtain rfl:=Option.some.inj H;go_enter Tryz.func96,Tryz.ntmps96
     go_wp2
     repeat (go_quiet (fail);try go_wp2)
     go_ret
     exact⟨pr1,by repeat (first|exact Drawn0.refl _|apply Drawn0.step)⟩
   · rw [if_neg c10]at H;have c10b0:=decide_eq_false c10;have c10b1:decide (l0.length<l1.length)=false:=decide_eq_false (fun h=>c10 (Int.ofNat_lt.mpr h));clear c10;obtain rfl:=Option.some.inj H;go_enter Tryz.func96,Tryz.ntmps96
     go_wp2
     repeat (go_quiet (fail);try go_wp2)
     go_ret
     exact⟨pr1,by repeat (first|exact Drawn0.refl _|apply Drawn0.step)⟩
def linkworkref01_trim.l0:Nat→List Int→Int→Option (List Int)
 | 0,_,_=>none
 | k+1,x0,x3=>if x3>0 then(if 0≤(wrap64 (x3-1))then (if (wrap64 (x3-1))<(x0.length:Int)then (if (rd x0 (wrap64 (x3-1)))=0 then(linkworkref01_trim.l0 k x0 (wrap64 (x3-1)))else (if 0≤x3 then(if x3≤(x0.length:Int)then (some (x0.take (x3:Int).toNat))else (none))else (none)))else (none))else (none))else (if 0≤x3 then(if x3≤(x0.length:Int)then (some (x0.take (x3:Int).toNat))else (none))else (none))
def linkworkref01_trim.f(k:Nat)(l0:List Int):Option (List Int):=linkworkref01_trim.l0 k l0 (l0.length:Int)
theorem linkworkref01_trim.calls(k:Nat)(P0_:Nat→Prop)(u9000_:Value)(l0:List Int)(r:List Int)(w0 w:World)(hB:Below w0.heap.size w0 w)(ho0:Kd.R (Kd.int .i64) 3 w w0.heap.size P0_ u9000_ l0)(h:linkworkref01_trim.f k l0=some r) :
 Calls Tryz.prog 114 #[u9000_] w fun e w'=>∃v0_:Value,e=.returned (v0_)∧Kd.R (Kd.int .i64) 3 w' w0.heap.size (fun k_=>(P0_ k_∨w.heap.size≤k_)) v0_ r∧Below w0.heap.size w0 w'∧Kept w w' (fun k_=>P0_ k_):=by
 have HO0:=Aside0.mk (show Kd.R (Kd.int .i64) 3 w w0.heap.size (fun k_=>(P0_ k_∨w.heap.size≤k_)) u9000_ l0 from Kd.R_mono ho0 (fun k_ hk=>(.inl hk)))
 have HK:=Aside0.mk (Kept.refl w (fun k_=>P0_ k_))
 have HW0:=Aside0.mk hB.size
 have HB:=Aside0.mk hB
 clear hB
 have H:(linkworkref01_trim.l0 k l0 (l0.length:Int))=some r:=h
 clear h
 have H':=Aside0.mk H
 clear H
 obtain⟨Ao2,co2,eo2⟩:=Kd.R_slice HO0.out
 subst eo2
 go_enter Tryz.func114,Tryz.ntmps114
 go_wp2
 go_loopg [3] k (fun kq v3 w'=>∃(x3_1:Int),v3=.int .i64 x3_1∧Aside0 (linkworkref01_trim.l0 kq l0 x3_1=some r)∧Aside0 (kq≤k)∧Aside0 (Kd.R (Kd.int .i64) 3 w' w0.heap.size (fun k_=>(P0_ k_∨w.heap.size≤k_)) (.slice Ao2 l0.length co2) l0)∧Aside0 (Kept w w' (fun k_=>P0_ k_))∧Aside0 (Below w0.heap.size w0 w'))
 case atStart=>exact ⟨((l0.length:Int)),pr1,H',⟨Nat.le_refl _⟩,⟨rq HO0.out⟩,⟨by repeat (first|(with_reducible first|exact HK.out|apply Kept.alloc|apply Kept.drewN|apply Kept.drew)|exact HK.out)⟩,⟨pb⟩⟩
 case round =>
  clear H';try clear c1
  try clear p2
  obtain⟨x3_1,rfl,HA,HK1,HO_0,HK,HB⟩:=hrel;cases gk with
  | zero=>exact absurd HA.out (by simp [linkworkref01_trim.l0])
  | succ k1 =>
   have H:=HA.out;clear HA;simp only [linkworkref01_trim.l0]at H;by_cases c3:x3_1>0
   · rw [if_pos c3]at H;have c3b0:=decide_eq_true c3;clear c3;obtain⟨ji4,hji4⟩:∃j_:Int,(wrap64 (x3_1-1))=j_:=⟨_,rfl⟩;replace H:(if 0≤(ji4)then (if (ji4)<(l0.length:Int)then (if (rd l0 (ji4))=0 then(linkworkref01_trim.l0 k1 l0 ji4)else (if 0≤x3_1 then(if x3_1≤(l0.length:Int)then (some (l0.take (x3_1:Int).toNat))else (none))else (none)))else (none))else (none))=some r:=by first|(rw [hji4]at H;exact H)|(simp only [hji4]at H ⊢;exact H)
     have hji4w:(IntKind.i64.wrap (x3_1-1))=ji4:=(i64_w _).trans hji4;replace H:=ifs H;obtain⟨c5,H⟩:=H;have c5b0:=decide_eq_true c5;clear c5;replace H:=ifs H;obtain⟨c6,H⟩:=H;have c6b0:=decide_eq_true c6;clear c6;by_cases c7:(rd l0 (ji4))=0
     · rw [if_pos c7]at H;have c7b0:((rd l0 (ji4))==0)=true:=beq_iff_eq.mpr c7;have c7b1:((rd l0 (ji4)) !=0)=false:=bne_eq_false_iff_eq.mpr c7;clear c7;have H':=Aside0.mk H;clear H;have p108:0≤((ji4):Int):=oda;have q108:(ji4)<(l0.length:Int):=oda;obtain⟨ad108,e108,hx108_0⟩:=Kd.at_int (Kd.R_reads' HO_0.out).2.2 (ji4) p108 q108;cases e108;replace p108:=eq_true p108;replace q108:=eq_true q108;go_wp2
       go_roundg k1
       case measure=>have:=HK1.out;omega
       case rel=>exact ⟨(ji4),(by first|rfl|(simp;done)|(simp only [←hji4] <;> (first|rfl|simp))|(simp [*];done)),H',⟨by have:=HK1.out;omega⟩,⟨rq HO_0.out⟩,⟨by repeat (first|(with_reducible first|exact HK.out|apply Kept.alloc|apply Kept.drewN|apply Kept.drew)|exact HK.out)⟩,⟨pb⟩⟩
     · rw [if_neg c7]at H;have c7b0:((rd l0 (ji4))==0)=false:=beq_eq_false_iff_ne.mpr c7;have c7b1:((rd l0 (ji4)) !=0)=true:=bne_iff_ne.mpr c7;replace H:=ifs H;obtain⟨c8,H⟩:=H;have c8b0:=eq_true c8;have c8b1:=decide_eq_true c8;clear c8;replace H:=ifs H;obtain⟨c9,H⟩:=H;have c9b0:=eq_true c9;have c9b1:=decide_eq_true c9;clear c9;obtain⟨y109,hy109⟩:∃y_:List Int,y_=(l0.take (x3_1:Int).toNat):=⟨_,rfl⟩;replace H:(some y109)=some r:=ry hy109 H;have Ny109:=Aside0.mk hy109;clear hy109;obtain rfl:=Option.some.inj H;have p108:0≤((ji4):Int):=oda;have q108:(ji4)<(l0.length:Int):=oda;obtain⟨ad108,e108,hx108_0⟩:=Kd.at_int (Kd.R_reads' HO_0.out).2.2 (ji4) p108 q108;cases e108;replace p108:=eq_true p108;replace q108:=eq_true q108;have q10:(x3_1:Int)≤((l0.length:Int):Int):=oda;obtain⟨i010,hi010,_,hsz10,_⟩:=info_parts info3;have hcut10:=cut_to (P:=Tryz.prog) 58 3 .i64 Tryz.underlying58 hi010 (some ad108) l0.length co2 x3_1 (oda) q10 (Kd.R_reads' HO_0.out).2.1;have hr10:=Kd.R_take (m:=(x3_1:Int).toNat) HO_0.out (by omega);have hy10:y109.length=(x3_1:Int).toNat:=(by rw [Ny109.out,List.length_take];omega);rw [←Ny109.out]at hr10;rw [←hy10]at hr10 hcut10;clear hy10 hi010 hsz10 HO_0;have HO111:=Aside0.mk hr10;clear hr10;replace q10:=eq_true q10;go_wp2
       go_ret
       exact⟨_,by first|rfl|(simp [errW_none,errW_some] <;> rfl)|(simp only [←hji4];first|rfl|(simp [errW_none,errW_some] <;> rfl))|(simp [*,errW_none,errW_some] <;> rfl),rq HO111.out,pb,by repeat (first|(with_reducible first|exact HK.out|apply Kept.alloc|apply Kept.drewN|apply Kept.drew)|exact HK.out)⟩
   · rw [if_neg c3]at H;have c3b0:=decide_eq_false c3;clear c3;replace H:=ifs H;obtain⟨c11,H⟩:=H;have c11b0:=eq_true c11;have c11b1:=decide_eq_true c11;clear c11;replace H:=ifs H;obtain⟨c12,H⟩:=H;have c12b0:=eq_true c12;have c12b1:=decide_eq_true c12;clear c12;obtain⟨y112,hy112⟩:∃y_:List Int,y_=(l0.take (x3_1:Int).toNat):=⟨_,rfl⟩;replace H:(some y112)=some r:=ry hy112 H;have Ny112:=Aside0.mk hy112;clear hy112;obtain rfl:=Option.some.inj H;have q13:(x3_1:Int)≤((l0.length:Int):Int):=oda;obtain⟨i013,hi013,_,hsz13,_⟩:=info_parts info3;have hcut13:=cut_to (P:=Tryz.prog) 58 3 .i64 Tryz.underlying58 hi013 Ao2 l0.length co2 x3_1 (oda) q13 (Kd.R_reads' HO_0.out).2.1;have hr13:=Kd.R_take (m:=(x3_1:Int).toNat) HO_0.out (by omega);have hy13:y112.length=(x3_1:Int).toNat:=(by rw [Ny112.out,List.length_take];omega);rw [←Ny112.out]at hr13;rw [←hy13]at hr13 hcut13;clear hy13 hi013 hsz13 HO_0;have HO114:=Aside0.mk hr13;clear hr13;replace q13:=eq_true q13;go_wp2
     go_ret
     exact⟨_,pr2,rq HO114.out,pb,by repeat (first|(with_reducible first|exact HK.out|apply Kept.alloc|apply Kept.drewN|apply Kept.drew)|exact HK.out)⟩
def linkworkref01_subNat.l0:Nat→List Int→List Int→List Int→Int→Int→Option (List Int)
 | 0,_,_,_,_,_=>none
 | k+1,x0,x1,x5,x6,x7=>if x7<(x0.length:Int)then (if 0≤x7 then(if x7<(x1.length:Int)then (if (wrap64 ((wrap64 ((rd x0 x7)-x6))-(rd x1 x7)))<0 then(if x7<(x5.length:Int)then (linkworkref01_subNat.l0 k x0 x1 (x5.set (x7:Int).toNat (wrap64 ((wrap64 ((wrap64 ((rd x0 x7)-x6))-(rd x1 x7)))+10000))) 1 (wrap64 (x7+1)))else (none))else (if x7<(x5.length:Int)then (linkworkref01_subNat.l0 k x0 x1 (x5.set (x7:Int).toNat (wrap64 ((wrap64 ((rd x0 x7)-x6))-(rd x1 x7)))) 0 (wrap64 (x7+1)))else (none)))else (if (wrap64 ((rd x0 x7)-x6))<0 then(if x7<(x5.length:Int)then (linkworkref01_subNat.l0 k x0 x1 (x5.set (x7:Int).toNat (wrap64 ((wrap64 ((rd x0 x7)-x6))+10000))) 1 (wrap64 (x7+1)))else (none))else (if x7<(x5.length:Int)then (linkworkref01_subNat.l0 k x0 x1 (x5.set (x7:Int).toNat (wrap64 ((rd x0 x7)-x6))) 0 (wrap64 (x7+1)))else (none))))else (none))else ((linkworkref01_trim.f k x5).bind fun t118=>(some t118))
def linkworkref01_subNat.f(k:Nat)(l0:List Int)(l1:List Int):Option (List Int):=if 0≤(l0.length:Int)then (if ((l0.length:Int):Int).toNat≤35184372088832 then(linkworkref01_subNat.l0 k l0 l1 (List.replicate ((l0.length:Int):Int).toNat 0) 0 0)else (none))else (none)
theorem linkworkref01_subNat.calls(k:Nat)(A0:Option Addr)(c0:Nat)(l0:List Int)(A1:Option Addr)(c1:Nat)(l1:List Int)(r:List Int)(w:World)(hr0:Kd.C (Kd.int .i64) w A0 l0.length l0)(hc0:l0.length≤c0)(hr1:Kd.C (Kd.int .i64) w A1 l1.length l1)(hc1:l1.length≤c1)(h:linkworkref01_subNat.f k l0 l1=some r) :
 Calls Tryz.prog 111 #[.slice A0 l0.length c0,.slice A1 l1.length c1] w fun e w'=>∃v0_:Value,e=.returned (v0_)∧Kd.R (Kd.int .i64) 3 w' w.heap.size (fun _=>True) v0_ r∧Below w.heap.size w w':=by
 have HR0:=Aside0.mk hr0
 have HC0:=Aside0.mk hc0
 clear hr0 hc0
 have HR1:=Aside0.mk hr1
 have HC1:=Aside0.mk hc1
 clear hr1 hc1
 have HB:=Aside0.mk (Below.refl w.heap.size w)
 have H:(if 0≤(l0.length:Int)then (if ((l0.length:Int):Int).toNat≤35184372088832 then(linkworkref01_subNat.l0 k l0 l1 (List.replicate ((l0.length:Int):Int).toNat 0) 0 0)else (none))else (none))=some r:=h
 clear h
 replace H:=ifs H
 obtain⟨c3,H⟩:=H
 have c3b0:=eq_true c3
 have c3b1:=decide_eq_true c3
 clear c3
 replace H:=ifs H
 obtain⟨c4,H⟩:=H
 have c4b0:=eq_true c4
 have c4b1:=decide_eq_true c4
 clear c4
 obtain⟨y115,hy115⟩:∃y_:List Int,y_=(List.replicate ((l0.length:Int):Int).toNat 0):=⟨_,rfl⟩
 replace H:(linkworkref01_subNat.l0 k l0 l1 y115 0 0)=some r:=ry hy115 H
 have Ny115:=Aside0.mk hy115
 clear hy115
 have H':=Aside0.mk H
 clear H
 go_enter Tryz.func111,Tryz.ntmps111
 go_wp2_with (first|((with_reducible refine gate_dst (N:=11) rfl ?_);refine Kd.R_make (Kd.int .i64) _ 3 rfl (N:=11) rfl 58 _ _ rfl (l0.length:Int) rfl rfl Tryz.underlying58 (.int .i64 0) 8 info3 rfl (by decide) (by omega) 0 (ok:=fun _=>True) (okp:=fun _=>True) rfl (fun _ hk=>hk) trivial (oda) (Nat.le_trans (Nat.mul_le_mul_right _ (oda:(l0.length:Int).toNat≤35184372088832)) (by omega)) (Below.refl _ _) (Nat.le_refl _) ?_;intro v116 w5 ho6 hb hg_ hnew_;clear hg_ hnew_;(first|rw [←Ny115.out]at ho6|(simp only [Int.reduceToNat]at ho6;rw [←Ny115.out]at ho6));have n0_:=Aside0.mk (Kd.R_lower ho6 (below_size pb));have n1_:=Aside0.mk (below_step pb hb);clear HB;have HO117:=n0_;have HB:=n1_;clear n0_ n1_;clear hb ho6))
 go_loopg [6,7] k (fun kq v6 v7 w'=>∃(x5_1:List Int) (x6_1:Int) (x7_1:Int),v6=.int .i64 x6_1∧v7=.int .i64 x7_1∧Aside0 (linkworkref01_subNat.l0 kq l0 l1 x5_1 x6_1 x7_1=some r)∧Aside0 (kq≤k)∧Aside0 (Kd.R (Kd.int .i64) 3 w' w.heap.size (fun _=>True) v116 x5_1)∧Aside0 (Below w.heap.size w w'))
 case atStart=>exact ⟨(y115),(0),(0),pr1,pr1,H',⟨Nat.le_refl _⟩,⟨rq HO117.out⟩,⟨pb⟩⟩
 case round =>
  clear H';try clear c1
  try clear p2
  try clear c3
  try clear c3b0
  try clear c3b1
  try clear c4
  try clear c4b0
  try clear c4b1
  obtain⟨x5_1,x6_1,x7_1,rfl,rfl,HA,HK1,HO_5,HB⟩:=hrel;cases gk with
  | zero=>exact absurd HA.out (by simp [linkworkref01_subNat.l0])
  | succ k1 =>
   have H:=HA.out;clear HA;simp only [linkworkref01_subNat.l0]at H;by_cases c7:x7_1<(l0.length:Int)
   · rw [if_pos c7]at H;have c7b0:=decide_eq_true c7;clear c7;replace H:=ifs H;obtain⟨c8,H⟩:=H;have c8b0:=decide_eq_true c8;clear c8;by_cases c9:x7_1<(l1.length:Int)
     · rw [if_pos c9]at H;have c9b0:=decide_eq_true c9;clear c9;by_cases c10:(wrap64 ((wrap64 ((rd l0 x7_1)-x6_1))-(rd l1 x7_1)))<0
       · rw [if_pos c10]at H;have c10b0:=decide_eq_true c10;clear c10;replace H:=ifs H;obtain⟨c11,H⟩:=H;have c11b0:=decide_eq_true c11;clear c11;obtain⟨y123,hy123⟩:∃y_:List Int,y_=(x5_1.set (x7_1:Int).toNat (wrap64 ((wrap64 ((wrap64 ((rd l0 x7_1)-x6_1))-(rd l1 x7_1)))+10000))):=⟨_,rfl⟩;replace H:(linkworkref01_subNat.l0 k1 l0 l1 y123 1 (wrap64 (x7_1+1)))=some r:=ry hy123 H;have Ny123:=Aside0.mk hy123;clear hy123;have H':=Aside0.mk H;clear H;have p121:0≤(x7_1:Int):=oda;have q121:x7_1<(l0.length:Int):=oda;obtain⟨ad121,e121,hx121_0⟩:=Kd.at_int HR0.out x7_1 p121 q121;cases e121;replace hx121_0:=(HB.out.cell (World.block_lt_of_cell? w _ hx121_0)).trans hx121_0;replace p121:=eq_true p121;replace q121:=eq_true q121;have p122:0≤(x7_1:Int):=oda;have q122:x7_1<(l1.length:Int):=oda;obtain⟨ad122,e122,hx122_0⟩:=Kd.at_int HR1.out x7_1 p122 q122;cases e122;replace hx122_0:=(HB.out.cell (World.block_lt_of_cell? w _ hx122_0)).trans hx122_0;replace p122:=eq_true p122;replace q122:=eq_true q122;have p12:0≤(x7_1:Int):=oda;have q12:(x7_1:Int)<((x5_1.length:Int):Int):=oda;obtain⟨go12,co12,eo12,gb12,gl12,cl12,HG12⟩:=Kd.R_form HO_5.out (by omega);(first|cases eo12|(injection eo12 with ea_ en_ ec_;(first|subst ea_|(injection ea_ with ea_;subst ea_));subst ec_;clear en_))
         have GB12:=Aside0.mk gb12;have GG12:=Aside0.mk HG12;clear gb12 gl12 HG12;obtain⟨hx12_0,hf12_0⟩:=Kd.R_celln 0 HO_5.out (x7_1:Int) p12 q12;replace p12:=eq_true p12;replace q12:=eq_true q12;have HP13:=Kd.R_putg HO_5.out (x7_1:Int) (wrap64 ((wrap64 ((wrap64 ((rd l0 x7_1)-x6_1))-(rd l1 x7_1)))+10000));go_wp2_with (first|((with_reducible refine gate_store (t:=3) (p:=41) rfl ?_);refine store_event (t:=3) (p:=41) (v:=?vo_w14) (w1:=(wr.setCell ⟨go12,(x7_1:Int).toNat,none⟩ (.int .i64 (wrap64 ((wrap64 ((wrap64 ((rd l0 x7_1)-x6_1))-(rd l1 x7_1)))+10000))))) ?hg ?ho ?hn ?hr ?_;(case ho=>rfl);(case hg=>rfl);(case hn=>rfl);(case hr=>first|(go_simp;done)|(go_simp;rfl));intro w14 hw;have hg:wr.grownBy w14 (some go12):=(by rw [hw];exact HP13.2);have hp_:Kd.R (Kd.int .i64) 3 w14 w.heap.size (fun _=>True) (.slice (some ⟨go12,0,none⟩) x5_1.length co12) y123:=(by rw [hw,Ny123.out];exact HP13.1);clear HP13;have n0_:=Aside0.mk (hp_);have n1_:=Aside0.mk ((by rw [hw];exact below_set (HB.out) GB12.out:Below w.heap.size w w14));clear HO_5;clear HB;have HO_5:=n0_;have HB:=n1_;clear n0_ n1_;clear hg hw hp_))
         go_roundg k1
         case measure=>have:=HK1.out;omega
         case rel=>exact ⟨(y123),(1),(wrap64 (x7_1+1)),pr1,pr1,H',⟨by have:=HK1.out;omega⟩,⟨rq HO_5.out⟩,⟨pb⟩⟩
       · rw [if_neg c10]at H;have c10b0:=decide_eq_false c10;clear c10;replace H:=ifs H;obtain⟨c15,H⟩:=H;have c15b0:=decide_eq_true c15;clear c15;obtain⟨y124,hy124⟩:∃y_:List Int,y_=(x5_1.set (x7_1:Int).toNat (wrap64 ((wrap64 ((rd l0 x7_1)-x6_1))-(rd l1 x7_1)))):=⟨_,rfl⟩;replace H:(linkworkref01_subNat.l0 k1 l0 l1 y124 0 (wrap64 (x7_1+1)))=some r:=ry hy124 H;have Ny124:=Aside0.mk hy124;clear hy124;have H':=Aside0.mk H;clear H;have p121:0≤(x7_1:Int):=oda;have q121:x7_1<(l0.length:Int):=oda;obtain⟨ad121,e121,hx121_0⟩:=Kd.at_int HR0.out x7_1 p121 q121;cases e121;replace hx121_0:=(HB.out.cell (World.block_lt_of_cell? w _ hx121_0)).trans hx121_0;replace p121:=eq_true p121;replace q121:=eq_true q121;have p122:0≤(x7_1:Int):=oda;have q122:x7_1<(l1.length:Int):=oda;obtain⟨ad122,e122,hx122_0⟩:=Kd.at_int HR1.out x7_1 p122 q122;cases e122;replace hx122_0:=(HB.out.cell (World.block_lt_of_cell? w _ hx122_0)).trans hx122_0;replace p122:=eq_true p122;replace q122:=eq_true q122;have p16:0≤(x7_1:Int):=oda;have q16:(x7_1:Int)<((x5_1.length:Int):Int):=oda;obtain⟨go16,co16,eo16,gb16,gl16,cl16,HG16⟩:=Kd.R_form HO_5.out (by omega);(first|cases eo16|(injection eo16 with ea_ en_ ec_;(first|subst ea_|(injection ea_ with ea_;subst ea_));subst ec_;clear en_))
         have GB16:=Aside0.mk gb16;have GG16:=Aside0.mk HG16;clear gb16 gl16 HG16;obtain⟨hx16_0,hf16_0⟩:=Kd.R_celln 0 HO_5.out (x7_1:Int) p16 q16;replace p16:=eq_true p16;replace q16:=eq_true q16;have HP17:=Kd.R_putg HO_5.out (x7_1:Int) (wrap64 ((wrap64 ((rd l0 x7_1)-x6_1))-(rd l1 x7_1)));go_wp2_with (first|((with_reducible refine gate_store (t:=3) (p:=41) rfl ?_);refine store_event (t:=3) (p:=41) (v:=?vo_w18) (w1:=(wr.setCell ⟨go16,(x7_1:Int).toNat,none⟩ (.int .i64 (wrap64 ((wrap64 ((rd l0 x7_1)-x6_1))-(rd l1 x7_1)))))) ?hg ?ho ?hn ?hr ?_;(case ho=>rfl);(case hg=>rfl);(case hn=>rfl);(case hr=>first|(go_simp;done)|(go_simp;rfl));intro w18 hw;have hg:wr.grownBy w18 (some go16):=(by rw [hw];exact HP17.2);have hp_:Kd.R (Kd.int .i64) 3 w18 w.heap.size (fun _=>True) (.slice (some ⟨go16,0,none⟩) x5_1.length co16) y124:=(by rw [hw,Ny124.out];exact HP17.1);clear HP17;have n0_:=Aside0.mk (hp_);have n1_:=Aside0.mk ((by rw [hw];exact below_set (HB.out) GB16.out:Below w.heap.size w w18));clear HO_5;clear HB;have HO_5:=n0_;have HB:=n1_;clear n0_ n1_;clear hg hw hp_))
         go_roundg k1
         case measure=>have:=HK1.out;omega
         case rel=>exact ⟨(y124),(0),(wrap64 (x7_1+1)),pr1,pr1,H',⟨by have:=HK1.out;omega⟩,⟨rq HO_5.out⟩,⟨pb⟩⟩
     · rw [if_neg c9]at H;have c9b0:=decide_eq_false c9;clear c9;by_cases c19:(wrap64 ((rd l0 x7_1)-x6_1))<0
       · rw [if_pos c19]at H;have c19b0:=decide_eq_true c19;clear c19;replace H:=ifs H;obtain⟨c20,H⟩:=H;have c20b0:=decide_eq_true c20;clear c20;obtain⟨y125,hy125⟩:∃y_:List Int,y_=(x5_1.set (x7_1:Int).toNat (wrap64 ((wrap64 ((rd l0 x7_1)-x6_1))+10000))):=⟨_,rfl⟩;replace H:(linkworkref01_subNat.l0 k1 l0 l1 y125 1 (wrap64 (x7_1+1)))=some r:=ry hy125 H;have Ny125:=Aside0.mk hy125;clear hy125;have H':=Aside0.mk H;clear H;have p121:0≤(x7_1:Int):=oda;have q121:x7_1<(l0.length:Int):=oda;obtain⟨ad121,e121,hx121_0⟩:=Kd.at_int HR0.out x7_1 p121 q121;cases e121;replace hx121_0:=(HB.out.cell (World.block_lt_of_cell? w _ hx121_0)).trans hx121_0;replace p121:=eq_true p121;replace q121:=eq_true q121;have p21:0≤(x7_1:Int):=oda;have q21:(x7_1:Int)<((x5_1.length:Int):Int):=oda;obtain⟨go21,co21,eo21,gb21,gl21,cl21,HG21⟩:=Kd.R_form HO_5.out (by omega);(first|cases eo21|(injection eo21 with ea_ en_ ec_;(first|subst ea_|(injection ea_ with ea_;subst ea_));subst ec_;clear en_))
         have GB21:=Aside0.mk gb21;have GG21:=Aside0.mk HG21;clear gb21 gl21 HG21;obtain⟨hx21_0,hf21_0⟩:=Kd.R_celln 0 HO_5.out (x7_1:Int) p21 q21;replace p21:=eq_true p21;replace q21:=eq_true q21;have HP22:=Kd.R_putg HO_5.out (x7_1:Int) (wrap64 ((wrap64 ((rd l0 x7_1)-x6_1))+10000));go_wp2_with (first|((with_reducible refine gate_store (t:=3) (p:=41) rfl ?_);refine store_event (t:=3) (p:=41) (v:=?vo_w23) (w1:=(wr.setCell ⟨go21,(x7_1:Int).toNat,none⟩ (.int .i64 (wrap64 ((wrap64 ((rd l0 x7_1)-x6_1))+10000))))) ?hg ?ho ?hn ?hr ?_;(case ho=>rfl);(case hg=>rfl);(case hn=>rfl);(case hr=>first|(go_simp;done)|(go_simp;rfl));intro w23 hw;have hg:wr.grownBy w23 (some go21):=(by rw [hw];exact HP22.2);have hp_:Kd.R (Kd.int .i64) 3 w23 w.heap.size (fun _=>True) (.slice (some ⟨go21,0,none⟩) x5_1.length co21) y125:=(by rw [hw,Ny125.out];exact HP22.1);clear HP22;have n0_:=Aside0.mk (hp_);have n1_:=Aside0.mk ((by rw [hw];exact below_set (HB.out) GB21.out:Below w.heap.size w w23));clear HO_5;clear HB;have HO_5:=n0_;have HB:=n1_;clear n0_ n1_;clear hg hw hp_))
         go_roundg k1
         case measure=>have:=HK1.out;omega
         case rel=>exact ⟨(y125),(1),(wrap64 (x7_1+1)),pr1,pr1,H',⟨by have:=HK1.out;omega⟩,⟨rq HO_5.out⟩,⟨pb⟩⟩
       · rw [if_neg c19]at H;have c19b0:=decide_eq_false c19;clear c19;replace H:=ifs H;obtain⟨c24,H⟩:=H;have c24b0:=decide_eq_true c24;clear c24;obtain⟨y126,hy126⟩:∃y_:List Int,y_=(x5_1.set (x7_1:Int).toNat (wrap64 ((rd l0 x7_1)-x6_1))):=⟨_,rfl⟩;replace H:(linkworkref01_subNat.l0 k1 l0 l1 y126 0 (wrap64 (x7_1+1)))=some r:=ry hy126 H;have Ny126:=Aside0.mk hy126;clear hy126;have H':=Aside0.mk H;clear H;have p121:0≤(x7_1:Int):=oda;have q121:x7_1<(l0.length:Int):=oda;obtain⟨ad121,e121,hx121_0⟩:=Kd.at_int HR0.out x7_1 p121 q121;cases e121;replace hx121_0:=(HB.out.cell (World.block_lt_of_cell? w _ hx121_0)).trans hx121_0;replace p121:=eq_true p121;replace q121:=eq_true q121;have p25:0≤(x7_1:Int):=oda;have q25:(x7_1:Int)<((x5_1.length:Int):Int):=oda;obtain⟨go25,co25,eo25,gb25,gl25,cl25,HG25⟩:=Kd.R_form HO_5.out (by omega);(first|cases eo25|(injection eo25 with ea_ en_ ec_;(first|subst ea_|(injection ea_ with ea_;subst ea_));subst ec_;clear en_))
         have GB25:=Aside0.mk gb25;have GG25:=Aside0.mk HG25;clear gb25 gl25 HG25;obtain⟨hx25_0,hf25_0⟩:=Kd.R_celln 0 HO_5.out (x7_1:Int) p25 q25;replace p25:=eq_true p25;replace q25:=eq_true q25;have HP26:=Kd.R_putg HO_5.out (x7_1:Int) (wrap64 ((rd l0 x7_1)-x6_1));go_wp2_with (first|((with_reducible refine gate_store (t:=3) (p:=41) rfl ?_);refine store_event (t:=3) (p:=41) (v:=?vo_w27) (w1:=(wr.setCell ⟨go25,(x7_1:Int).toNat,none⟩ (.int .i64 (wrap64 ((rd l0 x7_1)-x6_1))))) ?hg ?ho ?hn ?hr ?_;(case ho=>rfl);(case hg=>rfl);(case hn=>rfl);(case hr=>first|(go_simp;done)|(go_simp;rfl));intro w27 hw;have hg:wr.grownBy w27 (some go25):=(by rw [hw];exact HP26.2);have hp_:Kd.R (Kd.int .i64) 3 w27 w.heap.size (fun _=>True) (.slice (some ⟨go25,0,none⟩) x5_1.length co25) y126:=(by rw [hw,Ny126.out];exact HP26.1);clear HP26;have n0_:=Aside0.mk (hp_);have n1_:=Aside0.mk ((by rw [hw];exact below_set (HB.out) GB25.out:Below w.heap.size w w27));clear HO_5;clear HB;have HO_5:=n0_;have HB:=n1_;clear n0_ n1_;clear hg hw hp_))
         go_roundg k1
         case measure=>have:=HK1.out;omega
         case rel=>exact ⟨(y126),(0),(wrap64 (x7_1+1)),pr1,pr1,H',⟨by have:=HK1.out;omega⟩,⟨rq HO_5.out⟩,⟨pb⟩⟩
   · rw [if_neg c7]at H;have c7b0:=decide_eq_false c7;clear c7;replace H:=Option.bind_eq_some_iff.mp H;obtain⟨t118,A280,H⟩:=H;replace H:(some t118)=some r:=H;have A28:=Aside0.mk A280;clear A280;obtain rfl:=Option.some.inj H;obtain⟨Ao29,co29,eo29⟩:=Kd.R_slice HO_5.out;subst eo29;go_wp2_with (first|((with_reducible refine gate_callee (f:=114) rfl ?_);refine goesL_ (some 43) rfl rfl Tryz.func114 (by kernel_rfl) rfl #[.slice Ao29 x5_1.length co29] rfl (by(try simp only [List.map_toArray,List.map_cons,List.map_nil]);first|done|rfl|(simp only [List.length_drop,List.length_take];rfl)) ?_;(with_reducible refine(linkworkref01_trim.calls k1 (fun k_=>some k_=(.slice Ao29 x5_1.length co29:Value).ownBlock) (.slice Ao29 x5_1.length co29) x5_1 t118 w _ ?side1 ?side2 A28.out).mono ?_);(case side1=>exact pb);(case side2=>exact Kd.R_tight rfl HO_5.out);rintro e w30 ⟨v119,rfl,ho0,hb,hkp⟩;refine⟨_,rfl,?_⟩;have n0_:=Aside0.mk (Kd.R_mono (ok':=fun k_=>True) ho0 (fun k_ hk_=>trivial));have n1_:=Aside0.mk (hb);clear HB;clear HO_5;have HO120:=n0_;have HB:=n1_;clear n0_ n1_;(try clear hb);(try clear hkp);(try clear ho0)))
     go_ret
     exact⟨_,pr2,rq HO120.out,pb⟩
def linkworkref01_top.l0:Nat→List Int→Int→Int→Int→Option (Int)
 | 0,_,_,_,_=>none
 | k+1,x0,x1,x5,x6=>if x6≥x1 then(if x6≥0 then(if 0≤x6 then(if x6<(x0.length:Int)then (linkworkref01_top.l0 k x0 x1 (wrap64 ((wrap64 (x5*10000))+(rd x0 x6))) (wrap64 (x6-1)))else (none))else (none))else (some x5))else (some x5)
def linkworkref01_top.f(k:Nat)(l0:List Int)(a1:Int):Option (Int):=linkworkref01_top.l0 k l0 a1 0 (wrap64 ((l0.length:Int)-1))
theorem linkworkref01_top.calls(k:Nat)(A0:Option Addr)(c0:Nat)(l0:List Int)(a1:Int)(r:Int)(w:World)(hr0:Kd.C (Kd.int .i64) w A0 l0.length l0)(hc0:l0.length≤c0)(h:linkworkref01_top.f k l0 a1=some r) :
 Calls Tryz.prog 131 #[.slice A0 l0.length c0,.int .i64 a1] w fun e w'=>e=.returned (.int .i64 r)∧Drawn0 w w':=by
 have HR0:=Aside0.mk hr0
 have HC0:=Aside0.mk hc0
 clear hr0 hc0
 have H:(linkworkref01_top.l0 k l0 a1 0 (wrap64 ((l0.length:Int)-1)))=some r:=h
 clear h
 have H':=Aside0.mk H
 clear H
 go_enter Tryz.func131,Tryz.ntmps131
 go_wp2
 go_loopg [5,6] k (fun kq v5 v6 w'=>∃(x5_1:Int) (x6_1:Int),v5=.int .i64 x5_1∧v6=.int .i64 x6_1∧Aside0 (linkworkref01_top.l0 kq l0 a1 x5_1 x6_1=some r)∧Aside0 (kq≤k)∧Drawn0 w w')
 case atStart=>exact ⟨(0),(wrap64 ((l0.length:Int)-1)),pr1,pr1,H',⟨Nat.le_refl _⟩,by repeat (first|exact Drawn0.refl _|apply Drawn0.step)⟩
 case round =>
  clear H';try clear c1
  try clear p2
  obtain⟨x5_1,x6_1,rfl,rfl,HA,HK1,⟨m1,rfl⟩⟩:=hrel;cases gk with
  | zero=>exact absurd HA.out (by simp [linkworkref01_top.l0])
  | succ k1 =>
   have H:=HA.out;clear HA;simp only [linkworkref01_top.l0]at H;by_cases c3:x6_1≥a1
   · rw [if_pos c3]at H;have c3b0:=decide_eq_true c3;clear c3;by_cases c4:x6_1≥0
     · rw [if_pos c4]at H;have c4b0:=decide_eq_true c4;clear c4;replace H:=ifs H;obtain⟨c5,H⟩:=H;have c5b0:=decide_eq_true c5;clear c5;replace H:=ifs H;obtain⟨c6,H⟩:=H;have c6b0:=decide_eq_true c6;clear c6;have H':=Aside0.mk H;clear H;have p127:0≤(x6_1:Int):=oda;have q127:x6_1<(l0.length:Int):=oda;obtain⟨ad127,e127,hx127_0⟩:=Kd.at_int HR0.out x6_1 p127 q127;cases e127;replace p127:=eq_true p127;replace q127:=eq_true q127;go_wp2
       go_roundg k1
       case measure=>have:=HK1.out;omega
       case rel=>exact ⟨(wrap64 ((wrap64 (x5_1*10000))+(rd l0 x6_1))),(wrap64 (x6_1-1)),pr1,pr1,H',⟨by have:=HK1.out;omega⟩,by repeat (first|exact Drawn0.refl _|apply Drawn0.step)⟩
     · rw [if_neg c4]at H;have c4b0:=decide_eq_false c4;clear c4;obtain rfl:=Option.some.inj H;go_wp2
       go_ret
       exact⟨pr1,by repeat (first|exact Drawn0.refl _|apply Drawn0.step)⟩
   · rw [if_neg c3]at H;have c3b0:=decide_eq_false c3;clear c3;obtain rfl:=Option.some.inj H;go_wp2
     go_ret
     exact⟨pr1,by repeat (first|exact Drawn0.refl _|apply Drawn0.step)⟩
mutual
def linkworkref01_mulNat.l0:Nat→List Int→List Int→List Int→Int→Option (List Int)
 | 0,_,_,_,_=>none
 | k+1,x0,x1,x5,x6=>if x6<(x0.length:Int)then (linkworkref01_mulNat.l1 k x0 x1 x5 x6 0 0)else ((linkworkref01_trim.f k x5).bind fun t131=>(some t131))
def linkworkref01_mulNat.l1:Nat→List Int→List Int→List Int→Int→Int→Int→Option (List Int)
 | 0,_,_,_,_,_,_=>none
 | k+1,x0,x1,x5,x6,x7,x8=>if x8<(x1.length:Int)then (linkworkref01_mulNat.j2 k x0 x1 x5 x6 x7 x8 true)else (linkworkref01_mulNat.j2 k x0 x1 x5 x6 x7 x8 (decide (x7>0)))
def linkworkref01_mulNat.j2:Nat→List Int→List Int→List Int→Int→Int→Int→Bool→Option (List Int)
 | 0,_,_,_,_,_,_,_=>none
 | k+1,x0,x1,x5,x6,x7,x8,x30=>if x30=true then(if 0≤(wrap64 (x6+x8))then (if (wrap64 (x6+x8))<(x5.length:Int)then (if x8<(x1.length:Int)then (if 0≤x6 then(if x6<(x0.length:Int)then (if 0≤x8 then(linkworkref01_mulNat.l1 k x0 x1 (x5.set ((wrap64 (x6+x8)):Int).toNat (Int.tmod (wrap64 ((wrap64 ((rd x5 (wrap64 (x6+x8)))+x7))+(wrap64 ((rd x0 x6)*(rd x1 x8))))) 10000)) x6 (wrap64 (Int.tdiv (wrap64 ((wrap64 ((rd x5 (wrap64 (x6+x8)))+x7))+(wrap64 ((rd x0 x6)*(rd x1 x8))))) 10000)) (wrap64 (x8+1)))else (none))else (none))else (none))else (linkworkref01_mulNat.l1 k x0 x1 (x5.set ((wrap64 (x6+x8)):Int).toNat (Int.tmod (wrap64 ((rd x5 (wrap64 (x6+x8)))+x7)) 10000)) x6 (wrap64 (Int.tdiv (wrap64 ((rd x5 (wrap64 (x6+x8)))+x7)) 10000)) (wrap64 (x8+1))))else (none))else (none))else (linkworkref01_mulNat.l0 k x0 x1 x5 (wrap64 (x6+1)))
end
def linkworkref01_mulNat.f(k:Nat)(l0:List Int)(l1:List Int):Option (List Int):=if 0≤(wrap64 ((wrap64 ((l0.length:Int)+(l1.length:Int)))+1))then (if (wrap64 ((wrap64 ((l0.length:Int)+(l1.length:Int)))+1):Int).toNat≤35184372088832 then(linkworkref01_mulNat.l0 k l0 l1 (List.replicate (wrap64 ((wrap64 ((l0.length:Int)+(l1.length:Int)))+1):Int).toNat 0) 0)else (none))else (none)
theorem linkworkref01_mulNat.calls(k:Nat)(A0:Option Addr)(c0:Nat)(l0:List Int)(A1:Option Addr)(c1:Nat)(l1:List Int)(r:List Int)(w:World)(hr0:Kd.C (Kd.int .i64) w A0 l0.length l0)(hc0:l0.length≤c0)(hr1:Kd.C (Kd.int .i64) w A1 l1.length l1)(hc1:l1.length≤c1)(h:linkworkref01_mulNat.f k l0 l1=some r) :
 Calls Tryz.prog 82 #[.slice A0 l0.length c0,.slice A1 l1.length c1] w fun e w'=>∃v0_:Value,e=.returned (v0_)∧Kd.R (Kd.int .i64) 3 w' w.heap.size (fun _=>True) v0_ r∧Below w.heap.size w w':=by
 have HR0:=Aside0.mk hr0
 have HC0:=Aside0.mk hc0
 clear hr0 hc0
 have HR1:=Aside0.mk hr1
 have HC1:=Aside0.mk hc1
 clear hr1 hc1
 have HB:=Aside0.mk (Below.refl w.heap.size w)
 have H:(if 0≤(wrap64 ((wrap64 ((l0.length:Int)+(l1.length:Int)))+1))then (if (wrap64 ((wrap64 ((l0.length:Int)+(l1.length:Int)))+1):Int).toNat≤35184372088832 then(linkworkref01_mulNat.l0 k l0 l1 (List.replicate (wrap64 ((wrap64 ((l0.length:Int)+(l1.length:Int)))+1):Int).toNat 0) 0)else (none))else (none))=some r:=h
 clear h
 obtain⟨ji3,hji3⟩:∃j_:Int,(wrap64 ((wrap64 ((l0.length:Int)+(l1.length:Int)))+1))=j_:=⟨_,rfl⟩
 replace H:(if 0≤(ji3)then (if (ji3:Int).toNat≤35184372088832 then(linkworkref01_mulNat.l0 k l0 l1 (List.replicate (ji3:Int).toNat 0) 0)else (none))else (none))=some r:=by first|(rw [hji3]at H;exact H)|(simp only [hji3]at H ⊢;exact H)
 have hji3w:(IntKind.i64.wrap ((wrap64 ((l0.length:Int)+(l1.length:Int)))+1))=ji3:=(i64_w _).trans hji3
 replace H:=ifs H
 obtain⟨c4,H⟩:=H
 have c4b0:=eq_true c4
 have c4b1:=decide_eq_true c4
 clear c4
 replace H:=ifs H
 obtain⟨c5,H⟩:=H
 have c5b0:=eq_true c5
 have c5b1:=decide_eq_true c5
 clear c5
 obtain⟨y128,hy128⟩:∃y_:List Int,y_=(List.replicate (ji3:Int).toNat 0):=⟨_,rfl⟩
 replace H:(linkworkref01_mulNat.l0 k l0 l1 y128 0)=some r:=ry hy128 H
 have Ny128:=Aside0.mk hy128
 clear hy128
 have H':=Aside0.mk H
 clear H
 go_enter Tryz.func82,Tryz.ntmps82
 go_wp2_with (first|((with_reducible refine gate_dst (N:=16) rfl ?_);refine Kd.R_make (Kd.int .i64) _ 3 rfl (N:=16) rfl 58 _ _ rfl ji3 rfl rfl Tryz.underlying58 (.int .i64 0) 8 info3 rfl (by decide) (by omega) 0 (ok:=fun _=>True) (okp:=fun _=>True) rfl (fun _ hk=>hk) trivial (oda) (Nat.le_trans (Nat.mul_le_mul_right _ (oda:ji3.toNat≤35184372088832)) (by omega)) (Below.refl _ _) (Nat.le_refl _) ?_;intro v129 w6 ho7 hb hg_ hnew_;clear hg_ hnew_;(first|rw [←Ny128.out]at ho7|(simp only [Int.reduceToNat]at ho7;rw [←Ny128.out]at ho7));have n0_:=Aside0.mk (Kd.R_lower ho7 (below_size pb));have n1_:=Aside0.mk (below_step pb hb);clear HB;have HO130:=n0_;have HB:=n1_;clear n0_ n1_;clear hb ho7))
 repeat (go_quiet (first|((with_reducible refine gate_dst (N:=16) rfl ?_);refine Kd.R_make (Kd.int .i64) _ 3 rfl (N:=16) rfl 58 _ _ rfl ji3 rfl rfl Tryz.underlying58 (.int .i64 0) 8 info3 rfl (by decide) (by omega) 0 (ok:=fun _=>True) (okp:=fun _=>True) rfl (fun _ hk=>hk) trivial (oda) (Nat.le_trans (Nat.mul_le_mul_right _ (oda:ji3.toNat≤35184372088832)) (by omega)) (Below.refl _ _) (Nat.le_refl _) ?_;intro v129 w6 ho7 hb hg_ hnew_;clear hg_ hnew_;(first|rw [←Ny128.out]at ho7|(simp only [Int.reduceToNat]at ho7;rw [←Ny128.out]at ho7));have n0_:=Aside0.mk (Kd.R_lower ho7 (below_size pb));have n1_:=Aside0.mk (below_step pb hb);clear HB;have HO130:=n0_;have HB:=n1_;clear n0_ n1_;clear hb ho7));try go_wp2_with (first|((with_reducible refine gate_dst (N:=16) rfl ?_);refine Kd.R_make (Kd.int .i64) _ 3 rfl (N:=16) rfl 58 _ _ rfl ji3 rfl rfl Tryz.underlying58 (.int .i64 0) 8 info3 rfl (by decide) (by omega) 0 (ok:=fun _=>True) (okp:=fun _=>True) rfl (fun _ hk=>hk) trivial (oda) (Nat.le_trans (Nat.mul_le_mul_right _ (oda:ji3.toNat≤35184372088832)) (by omega)) (Below.refl _ _) (Nat.le_refl _) ?_;intro v129 w6 ho7 hb hg_ hnew_;clear hg_ hnew_;(first|rw [←Ny128.out]at ho7|(simp only [Int.reduceToNat]at ho7;rw [←Ny128.out]at ho7));have n0_:=Aside0.mk (Kd.R_lower ho7 (below_size pb));have n1_:=Aside0.mk (below_step pb hb);clear HB;have HO130:=n0_;have HB:=n1_;clear n0_ n1_;clear hb ho7)))
 go_loopg [6] k (fun kq v6 w'=>∃(x5_1:List Int) (x6_1:Int),v6=.int .i64 x6_1∧Aside0 (linkworkref01_mulNat.l0 kq l0 l1 x5_1 x6_1=some r)∧Aside0 (kq≤k)∧Aside0 (Kd.R (Kd.int .i64) 3 w' w.heap.size (fun _=>True) v129 x5_1)∧Aside0 (Below w.heap.size w w'))
 case atStart=>exact ⟨(y128),(0),pr1,H',⟨Nat.le_refl _⟩,⟨rq HO130.out⟩,⟨pb⟩⟩
 case round =>
  clear H';try clear c1
  try clear p2
  try clear c4
  try clear c4b0
  try clear c4b1
  try clear c5
  try clear c5b0
  try clear c5b1
  try clear p6
  obtain⟨x5_1,x6_1,rfl,HA,HK1,HO_5,HB⟩:=hrel;cases gk with
  | zero=>exact absurd HA.out (by simp [linkworkref01_mulNat.l0])
  | succ k1 =>
   have H:=HA.out;clear HA;simp only [linkworkref01_mulNat.l0]at H;by_cases c8:x6_1<(l0.length:Int)
   · rw [if_pos c8]at H;have c8b0:=decide_eq_true c8;clear c8;have H':=Aside0.mk H;clear H;go_wp2
     repeat (go_quiet (fail);try go_wp2)
     go_loopg [7,8] k1 (fun kq v7 v8 w'=>∃(x5_2:List Int) (x7_2:Int) (x8_2:Int),v7=.int .i64 x7_2∧v8=.int .i64 x8_2∧Aside0 (linkworkref01_mulNat.l1 kq l0 l1 x5_2 x6_1 x7_2 x8_2=some r)∧Aside0 (kq≤k1)∧Aside0 (Kd.R (Kd.int .i64) 3 w' w.heap.size (fun _=>True) v129 x5_2)∧Aside0 (Below w.heap.size w w'))
     case atStart=>exact ⟨(x5_1),(0),(0),pr1,pr1,H',⟨Nat.le_refl _⟩,⟨rq HO_5.out⟩,⟨pb⟩⟩
     case round =>
      clear H';try clear c1
      try clear p2
      try clear c4
      try clear c4b0
      try clear c4b1
      try clear c5
      try clear c5b0
      try clear c5b1
      try clear p6
      try clear c8
      try clear c8b0
      try clear p2
      try clear p6
      obtain⟨x5_2,x7_2,x8_2,rfl,rfl,HA,HK2,HO_5,HB⟩:=hrel;cases gk with
      | zero=>exact absurd HA.out (by simp [linkworkref01_mulNat.l1])
      | succ k2 =>
       have H:=HA.out;clear HA;simp only [linkworkref01_mulNat.l1]at H;have HC9:=Aside0.mk H;clear H;go_upto_region 7 with (fail)
       repeat (go_quiet (fail);go_upto_region 7 with (fail))
       go_cut [30] (fun v30 wc=>∃(kq:Nat) (x30_8:Bool),v30=.bool x30_8∧Aside0 (linkworkref01_mulNat.j2 kq l0 l1 x5_2 x6_1 x7_2 x8_2 x30_8=some r)∧Aside0 (kq≤k2)∧Aside0 (Kd.R (Kd.int .i64) 3 wc w.heap.size (fun _=>True) v129 x5_2)∧Aside0 (Below w.heap.size w wc))
       case first =>
        have H:=HC9.out;clear HC9;by_cases c10:x8_2<(l1.length:Int)
        · rw [if_pos c10]at H;have c10b0:=decide_eq_true c10;clear c10;(first|rw [c10b0]|(simp only [i64_w,i32_w];rw [c10b0])|skip)
          have H':=Aside0.mk H;clear H;go_wp2
          repeat (go_quiet (fail);try go_wp2)
          go_meet
          case rel=>exact ⟨_,(true),pr1,H',⟨by have:=HK1.out;have:=HK2.out;first|omega|exact Nat.le_refl _⟩,⟨rq HO_5.out⟩,⟨pb⟩⟩
        · rw [if_neg c10]at H;have c10b0:=decide_eq_false c10;clear c10;(first|rw [c10b0]|(simp only [i64_w,i32_w];rw [c10b0])|skip)
          have H':=Aside0.mk H;clear H;go_wp2
          repeat (go_quiet (fail);try go_wp2)
          go_meet
          case rel=>exact ⟨_,(decide (x7_2>0)),pr1,H',⟨by have:=HK1.out;have:=HK2.out;first|omega|exact Nat.le_refl _⟩,⟨rq HO_5.out⟩,⟨pb⟩⟩
       case rest =>
        clear HC9;try clear c1
        try clear p2
        try clear c4
        try clear c4b0
        try clear c4b1
        try clear c5
        try clear c5b0
        try clear c5b1
        try clear p6
        try clear c8
        try clear c8b0
        try clear c10
        try clear c10b0
        try clear p2
        try clear p6
        obtain⟨kq,x30_8,rfl,HA,HJ8,HO_5,HB⟩:=hcut;cases kq with
        | zero=>exact absurd HA.out (by simp [linkworkref01_mulNat.j2])
        | succ kj8 =>
         have H:=HA.out;clear HA;simp only [linkworkref01_mulNat.j2]at H;by_cases c11:x30_8=true
         · subst c11;have H1:(if 0≤(wrap64 (x6_1+x8_2))then (if (wrap64 (x6_1+x8_2))<(x5_2.length:Int)then (if x8_2<(l1.length:Int)then (if 0≤x6_1 then(if x6_1<(l0.length:Int)then (if 0≤x8_2 then(linkworkref01_mulNat.l1 kj8 l0 l1 (x5_2.set ((wrap64 (x6_1+x8_2)):Int).toNat (Int.tmod (wrap64 ((wrap64 ((rd x5_2 (wrap64 (x6_1+x8_2)))+x7_2))+(wrap64 ((rd l0 x6_1)*(rd l1 x8_2))))) 10000)) x6_1 (wrap64 (Int.tdiv (wrap64 ((wrap64 ((rd x5_2 (wrap64 (x6_1+x8_2)))+x7_2))+(wrap64 ((rd l0 x6_1)*(rd l1 x8_2))))) 10000)) (wrap64 (x8_2+1)))else (none))else (none))else (none))else (linkworkref01_mulNat.l1 kj8 l0 l1 (x5_2.set ((wrap64 (x6_1+x8_2)):Int).toNat (Int.tmod (wrap64 ((rd x5_2 (wrap64 (x6_1+x8_2)))+x7_2)) 10000)) x6_1 (wrap64 (Int.tdiv (wrap64 ((rd x5_2 (wrap64 (x6_1+x8_2)))+x7_2)) 10000)) (wrap64 (x8_2+1))))else (none))else (none))=some r:=by rw [if_pos rfl]at H;exact H
           clear H;have H:=H1;clear H1;obtain⟨ji12,hji12⟩:∃j_:Int,(wrap64 (x6_1+x8_2))=j_:=⟨_,rfl⟩;replace H:(if 0≤(ji12)then (if (ji12)<(x5_2.length:Int)then (if x8_2<(l1.length:Int)then (if 0≤x6_1 then(if x6_1<(l0.length:Int)then (if 0≤x8_2 then(linkworkref01_mulNat.l1 kj8 l0 l1 (x5_2.set ((ji12):Int).toNat (Int.tmod (wrap64 ((wrap64 ((rd x5_2 (ji12))+x7_2))+(wrap64 ((rd l0 x6_1)*(rd l1 x8_2))))) 10000)) x6_1 (wrap64 (Int.tdiv (wrap64 ((wrap64 ((rd x5_2 (ji12))+x7_2))+(wrap64 ((rd l0 x6_1)*(rd l1 x8_2))))) 10000)) (wrap64 (x8_2+1)))else (none))else (none))else (none))else (linkworkref01_mulNat.l1 kj8 l0 l1 (x5_2.set ((ji12):Int).toNat (Int.tmod (wrap64 ((rd x5_2 (ji12))+x7_2)) 10000)) x6_1 (wrap64 (Int.tdiv (wrap64 ((rd x5_2 (ji12))+x7_2)) 10000)) (wrap64 (x8_2+1))))else (none))else (none))=some r:=by first|(rw [hji12]at H;exact H)|(simp only [hji12]at H ⊢;exact H)
           have hji12w:(IntKind.i64.wrap (x6_1+x8_2))=ji12:=(i64_w _).trans hji12;replace H:=ifs H;obtain⟨c13,H⟩:=H;have c13b0:=decide_eq_true c13;clear c13;replace H:=ifs H;obtain⟨c14,H⟩:=H;have c14b0:=decide_eq_true c14;clear c14;by_cases c15:x8_2<(l1.length:Int)
           · rw [if_pos c15]at H;have c15b0:=decide_eq_true c15;clear c15;replace H:=ifs H;obtain⟨c16,H⟩:=H;have c16b0:=decide_eq_true c16;clear c16;replace H:=ifs H;obtain⟨c17,H⟩:=H;have c17b0:=decide_eq_true c17;clear c17;replace H:=ifs H;obtain⟨c18,H⟩:=H;have c18b0:=decide_eq_true c18;clear c18;obtain⟨y137,hy137⟩:∃y_:List Int,y_=(x5_2.set ((ji12):Int).toNat (Int.tmod (wrap64 ((wrap64 ((rd x5_2 (ji12))+x7_2))+(wrap64 ((rd l0 x6_1)*(rd l1 x8_2))))) 10000)):=⟨_,rfl⟩;replace H:(linkworkref01_mulNat.l1 kj8 l0 l1 y137 x6_1 (wrap64 (Int.tdiv (wrap64 ((wrap64 ((rd x5_2 (ji12))+x7_2))+(wrap64 ((rd l0 x6_1)*(rd l1 x8_2))))) 10000)) (wrap64 (x8_2+1)))=some r:=ry hy137 H;have Ny137:=Aside0.mk hy137;clear hy137;have H':=Aside0.mk H;clear H;obtain⟨Ao20,co20,eo20⟩:=Kd.R_slice HO_5.out;subst eo20;have p134:0≤((ji12):Int):=oda;have q134:(ji12)<(x5_2.length:Int):=oda;obtain⟨ad134,e134,hx134_0⟩:=Kd.at_int (Kd.R_reads' HO_5.out).2.2 (ji12) p134 q134;cases e134;replace p134:=eq_true p134;replace q134:=eq_true q134;have p135:0≤(x6_1:Int):=oda;have q135:x6_1<(l0.length:Int):=oda;obtain⟨ad135,e135,hx135_0⟩:=Kd.at_int HR0.out x6_1 p135 q135;cases e135;replace hx135_0:=(HB.out.cell (World.block_lt_of_cell? w _ hx135_0)).trans hx135_0;replace p135:=eq_true p135;replace q135:=eq_true q135;have p136:0≤(x8_2:Int):=oda;have q136:x8_2<(l1.length:Int):=oda;obtain⟨ad136,e136,hx136_0⟩:=Kd.at_int HR1.out x8_2 p136 q136;cases e136;replace hx136_0:=(HB.out.cell (World.block_lt_of_cell? w _ hx136_0)).trans hx136_0;replace p136:=eq_true p136;replace q136:=eq_true q136;have p19:0≤((ji12):Int):=oda;have q19:((ji12):Int)<((x5_2.length:Int):Int):=oda;obtain⟨go19,co19,eo19,gb19,gl19,cl19,HG19⟩:=Kd.R_form HO_5.out (by omega);(first|cases eo19|(injection eo19 with ea_ en_ ec_;(first|subst ea_|(injection ea_ with ea_;subst ea_));subst ec_;clear en_))
             have GB19:=Aside0.mk gb19;have GG19:=Aside0.mk HG19;clear gb19 gl19 HG19;(first|simp only [add_plain]at hx134_0|skip)
             obtain⟨hx19_0,hf19_0⟩:=Kd.R_celln 0 HO_5.out ((ji12):Int) p19 q19;replace p19:=eq_true p19;replace q19:=eq_true q19;have HP21:=Kd.R_putg HO_5.out ((ji12):Int) (Int.tmod (wrap64 ((wrap64 ((rd x5_2 (ji12))+x7_2))+(wrap64 ((rd l0 x6_1)*(rd l1 x8_2))))) 10000);go_wp2_with (first|((with_reducible refine gate_store (t:=3) (p:=62) rfl ?_);(try (rw [drewN_self wc];generalize hq_:World.drewN wc _=wc;have n0_:=Aside0.mk (Kd.R_at hq_ HO_5.out);have n1_:=Aside0.mk (below_at hq_ HB.out);clear hq_ HO_5 HB;have HO_5:=n0_;have HB:=n1_;clear n0_ n1_;(try (have HP21:=Kd.R_putg HO_5.out ((ji12):Int) (Int.tmod (wrap64 ((wrap64 ((rd x5_2 (ji12))+x7_2))+(wrap64 ((rd l0 x6_1)*(rd l1 x8_2))))) 10000)))));refine store_event (t:=3) (p:=62) (v:=?vo_w22) (w1:=(wc.setCell ⟨go19,((ji12):Int).toNat,none⟩ (.int .i64 (Int.tmod (wrap64 ((wrap64 ((rd x5_2 (ji12))+x7_2))+(wrap64 ((rd l0 x6_1)*(rd l1 x8_2))))) 10000)))) ?hg ?ho ?hn ?hr ?_;(case ho=>rfl);(case hg=>rfl);(case hn=>rfl);(case hr=>first|(go_simp;done)|(go_simp;rfl));intro w22 hw;have hg:wc.grownBy w22 (some go19):=(by rw [hw];exact HP21.2);have hp_:Kd.R (Kd.int .i64) 3 w22 w.heap.size (fun _=>True) (.slice (some ⟨go19,0,none⟩) x5_2.length co20) y137:=(by rw [hw,Ny137.out];exact HP21.1);clear HP21;have n0_:=Aside0.mk (hp_);have n1_:=Aside0.mk ((by rw [hw];exact below_set (HB.out) GB19.out:Below w.heap.size w w22));clear HO_5;clear HB;have HO_5:=n0_;have HB:=n1_;clear n0_ n1_;clear hg hw hp_))
             repeat (go_quiet (first|((with_reducible refine gate_store (t:=3) (p:=62) rfl ?_);(try (rw [drewN_self wc];generalize hq_:World.drewN wc _=wc;have n0_:=Aside0.mk (Kd.R_at hq_ HO_5.out);have n1_:=Aside0.mk (below_at hq_ HB.out);clear hq_ HO_5 HB;have HO_5:=n0_;have HB:=n1_;clear n0_ n1_;(try (have HP21:=Kd.R_putg HO_5.out ((ji12):Int) (Int.tmod (wrap64 ((wrap64 ((rd x5_2 (ji12))+x7_2))+(wrap64 ((rd l0 x6_1)*(rd l1 x8_2))))) 10000)))));refine store_event (t:=3) (p:=62) (v:=?vo_w22) (w1:=(wc.setCell ⟨go19,((ji12):Int).toNat,none⟩ (.int .i64 (Int.tmod (wrap64 ((wrap64 ((rd x5_2 (ji12))+x7_2))+(wrap64 ((rd l0 x6_1)*(rd l1 x8_2))))) 10000)))) ?hg ?ho ?hn ?hr ?_;(case ho=>rfl);(case hg=>rfl);(case hn=>rfl);(case hr=>first|(go_simp;done)|(go_simp;rfl));intro w22 hw;have hg:wc.grownBy w22 (some go19):=(by rw [hw];exact HP21.2);have hp_:Kd.R (Kd.int .i64) 3 w22 w.heap.size (fun _=>True) (.slice (some ⟨go19,0,none⟩) x5_2.length co20) y137:=(by rw [hw,Ny137.out];exact HP21.1);clear HP21;have n0_:=Aside0.mk (hp_);have n1_:=Aside0.mk ((by rw [hw];exact below_set (HB.out) GB19.out:Below w.heap.size w w22));clear HO_5;clear HB;have HO_5:=n0_;have HB:=n1_;clear n0_ n1_;clear hg hw hp_));try go_wp2_with (first|((with_reducible refine gate_store (t:=3) (p:=62) rfl ?_);(try (rw [drewN_self wc];generalize hq_:World.drewN wc _=wc;have n0_:=Aside0.mk (Kd.R_at hq_ HO_5.out);have n1_:=Aside0.mk (below_at hq_ HB.out);clear hq_ HO_5 HB;have HO_5:=n0_;have HB:=n1_;clear n0_ n1_;(try (have HP21:=Kd.R_putg HO_5.out ((ji12):Int) (Int.tmod (wrap64 ((wrap64 ((rd x5_2 (ji12))+x7_2))+(wrap64 ((rd l0 x6_1)*(rd l1 x8_2))))) 10000)))));refine store_event (t:=3) (p:=62) (v:=?vo_w22) (w1:=(wc.setCell ⟨go19,((ji12):Int).toNat,none⟩ (.int .i64 (Int.tmod (wrap64 ((wrap64 ((rd x5_2 (ji12))+x7_2))+(wrap64 ((rd l0 x6_1)*(rd l1 x8_2))))) 10000)))) ?hg ?ho ?hn ?hr ?_;(case ho=>rfl);(case hg=>rfl);(case hn=>rfl);(case hr=>first|(go_simp;done)|(go_simp;rfl));intro w22 hw;have hg:wc.grownBy w22 (some go19):=(by rw [hw];exact HP21.2);have hp_:Kd.R (Kd.int .i64) 3 w22 w.heap.size (fun _=>True) (.slice (some ⟨go19,0,none⟩) x5_2.length co20) y137:=(by rw [hw,Ny137.out];exact HP21.1);clear HP21;have n0_:=Aside0.mk (hp_);have n1_:=Aside0.mk ((by rw [hw];exact below_set (HB.out) GB19.out:Below w.heap.size w w22));clear HO_5;clear HB;have HO_5:=n0_;have HB:=n1_;clear n0_ n1_;clear hg hw hp_)))
             go_roundg kj8
             case measure=>have:=HK1.out;have:=HK2.out;have:=HJ8.out;omega
             case rel=>exact ⟨(y137),(wrap64 (Int.tdiv (wrap64 ((wrap64 ((rd x5_2 (ji12))+x7_2))+(wrap64 ((rd l0 x6_1)*(rd l1 x8_2))))) 10000)),(wrap64 (x8_2+1)),(by first|rfl|(simp;done)|(simp only [←hji12] <;> (first|rfl|simp))|(simp [*];done)),pr1,H',⟨by have:=HK1.out;have:=HK2.out;have:=HJ8.out;omega⟩,⟨by (with_reducible repeat (first|apply Kd.R_alloc|apply Kd.R_drewN|apply Kd.R_drew));first|exact HO_5.out|(rw [Ny137.out];exact(Kd.R_putg (Kd.R_drewN HO_5.out _) ((ji12):Int) (Int.tmod (wrap64 ((wrap64 ((rd x5_2 (ji12))+x7_2))+(wrap64 ((rd l0 x6_1)*(rd l1 x8_2))))) 10000)).1)⟩,⟨by repeat (first|(with_reducible first|exact HB.out|apply below_alloc|apply pw_below_drewN|apply below_drew1)|exact HB.out|(with_reducible exact below_set (pw_below_drewN HB.out _) GB19.out))⟩⟩
           · rw [if_neg c15]at H;have c15b0:=decide_eq_false c15;clear c15;obtain⟨y138,hy138⟩:∃y_:List Int,y_=(x5_2.set ((ji12):Int).toNat (Int.tmod (wrap64 ((rd x5_2 (ji12))+x7_2)) 10000)):=⟨_,rfl⟩;replace H:(linkworkref01_mulNat.l1 kj8 l0 l1 y138 x6_1 (wrap64 (Int.tdiv (wrap64 ((rd x5_2 (ji12))+x7_2)) 10000)) (wrap64 (x8_2+1)))=some r:=ry hy138 H;have Ny138:=Aside0.mk hy138;clear hy138;have H':=Aside0.mk H;clear H;obtain⟨Ao24,co24,eo24⟩:=Kd.R_slice HO_5.out;subst eo24;have p134:0≤((ji12):Int):=oda;have q134:(ji12)<(x5_2.length:Int):=oda;obtain⟨ad134,e134,hx134_0⟩:=Kd.at_int (Kd.R_reads' HO_5.out).2.2 (ji12) p134 q134;cases e134;replace p134:=eq_true p134;replace q134:=eq_true q134;have p23:0≤((ji12):Int):=oda;have q23:((ji12):Int)<((x5_2.length:Int):Int):=oda;obtain⟨go23,co23,eo23,gb23,gl23,cl23,HG23⟩:=Kd.R_form HO_5.out (by omega);(first|cases eo23|(injection eo23 with ea_ en_ ec_;(first|subst ea_|(injection ea_ with ea_;subst ea_));subst ec_;clear en_))
             have GB23:=Aside0.mk gb23;have GG23:=Aside0.mk HG23;clear gb23 gl23 HG23;(first|simp only [add_plain]at hx134_0|skip)
             obtain⟨hx23_0,hf23_0⟩:=Kd.R_celln 0 HO_5.out ((ji12):Int) p23 q23;replace p23:=eq_true p23;replace q23:=eq_true q23;have HP25:=Kd.R_putg HO_5.out ((ji12):Int) (Int.tmod (wrap64 ((rd x5_2 (ji12))+x7_2)) 10000);go_wp2_with (first|((with_reducible refine gate_store (t:=3) (p:=62) rfl ?_);(try (rw [drewN_self wc];generalize hq_:World.drewN wc _=wc;have n0_:=Aside0.mk (Kd.R_at hq_ HO_5.out);have n1_:=Aside0.mk (below_at hq_ HB.out);clear hq_ HO_5 HB;have HO_5:=n0_;have HB:=n1_;clear n0_ n1_;(try (have HP25:=Kd.R_putg HO_5.out ((ji12):Int) (Int.tmod (wrap64 ((rd x5_2 (ji12))+x7_2)) 10000)))));refine store_event (t:=3) (p:=62) (v:=?vo_w26) (w1:=(wc.setCell ⟨go23,((ji12):Int).toNat,none⟩ (.int .i64 (Int.tmod (wrap64 ((rd x5_2 (ji12))+x7_2)) 10000)))) ?hg ?ho ?hn ?hr ?_;(case ho=>rfl);(case hg=>rfl);(case hn=>rfl);(case hr=>first|(go_simp;done)|(go_simp;rfl));intro w26 hw;have hg:wc.grownBy w26 (some go23):=(by rw [hw];exact HP25.2);have hp_:Kd.R (Kd.int .i64) 3 w26 w.heap.size (fun _=>True) (.slice (some ⟨go23,0,none⟩) x5_2.length co24) y138:=(by rw [hw,Ny138.out];exact HP25.1);clear HP25;have n0_:=Aside0.mk (hp_);have n1_:=Aside0.mk ((by rw [hw];exact below_set (HB.out) GB23.out:Below w.heap.size w w26));clear HO_5;clear HB;have HO_5:=n0_;have HB:=n1_;clear n0_ n1_;clear hg hw hp_))
             repeat (go_quiet (first|((with_reducible refine gate_store (t:=3) (p:=62) rfl ?_);(try (rw [drewN_self wc];generalize hq_:World.drewN wc _=wc;have n0_:=Aside0.mk (Kd.R_at hq_ HO_5.out);have n1_:=Aside0.mk (below_at hq_ HB.out);clear hq_ HO_5 HB;have HO_5:=n0_;have HB:=n1_;clear n0_ n1_;(try (have HP25:=Kd.R_putg HO_5.out ((ji12):Int) (Int.tmod (wrap64 ((rd x5_2 (ji12))+x7_2)) 10000)))));refine store_event (t:=3) (p:=62) (v:=?vo_w26) (w1:=(wc.setCell ⟨go23,((ji12):Int).toNat,none⟩ (.int .i64 (Int.tmod (wrap64 ((rd x5_2 (ji12))+x7_2)) 10000)))) ?hg ?ho ?hn ?hr ?_;(case ho=>rfl);(case hg=>rfl);(case hn=>rfl);(case hr=>first|(go_simp;done)|(go_simp;rfl));intro w26 hw;have hg:wc.grownBy w26 (some go23):=(by rw [hw];exact HP25.2);have hp_:Kd.R (Kd.int .i64) 3 w26 w.heap.size (fun _=>True) (.slice (some ⟨go23,0,none⟩) x5_2.length co24) y138:=(by rw [hw,Ny138.out];exact HP25.1);clear HP25;have n0_:=Aside0.mk (hp_);have n1_:=Aside0.mk ((by rw [hw];exact below_set (HB.out) GB23.out:Below w.heap.size w w26));clear HO_5;clear HB;have HO_5:=n0_;have HB:=n1_;clear n0_ n1_;clear hg hw hp_));try go_wp2_with (first|((with_reducible refine gate_store (t:=3) (p:=62) rfl ?_);(try (rw [drewN_self wc];generalize hq_:World.drewN wc _=wc;have n0_:=Aside0.mk (Kd.R_at hq_ HO_5.out);have n1_:=Aside0.mk (below_at hq_ HB.out);clear hq_ HO_5 HB;have HO_5:=n0_;have HB:=n1_;clear n0_ n1_;(try (have HP25:=Kd.R_putg HO_5.out ((ji12):Int) (Int.tmod (wrap64 ((rd x5_2 (ji12))+x7_2)) 10000)))));refine store_event (t:=3) (p:=62) (v:=?vo_w26) (w1:=(wc.setCell ⟨go23,((ji12):Int).toNat,none⟩ (.int .i64 (Int.tmod (wrap64 ((rd x5_2 (ji12))+x7_2)) 10000)))) ?hg ?ho ?hn ?hr ?_;(case ho=>rfl);(case hg=>rfl);(case hn=>rfl);(case hr=>first|(go_simp;done)|(go_simp;rfl));intro w26 hw;have hg:wc.grownBy w26 (some go23):=(by rw [hw];exact HP25.2);have hp_:Kd.R (Kd.int .i64) 3 w26 w.heap.size (fun _=>True) (.slice (some ⟨go23,0,none⟩) x5_2.length co24) y138:=(by rw [hw,Ny138.out];exact HP25.1);clear HP25;have n0_:=Aside0.mk (hp_);have n1_:=Aside0.mk ((by rw [hw];exact below_set (HB.out) GB23.out:Below w.heap.size w w26));clear HO_5;clear HB;have HO_5:=n0_;have HB:=n1_;clear n0_ n1_;clear hg hw hp_)))
             go_roundg kj8
             case measure=>have:=HK1.out;have:=HK2.out;have:=HJ8.out;omega
             case rel=>exact ⟨(y138),(wrap64 (Int.tdiv (wrap64 ((rd x5_2 (ji12))+x7_2)) 10000)),(wrap64 (x8_2+1)),(by first|rfl|(simp;done)|(simp only [←hji12] <;> (first|rfl|simp))|(simp [*];done)),pr1,H',⟨by have:=HK1.out;have:=HK2.out;have:=HJ8.out;omega⟩,⟨rq HO_5.out⟩,⟨pb⟩⟩
         · replace c11:=Bool.eq_false_iff.mpr c11;subst c11;have H1:(linkworkref01_mulNat.l0 kj8 l0 l1 x5_2 (wrap64 (x6_1+1)))=some r:=by rw [if_neg (show ¬(false=true) by decide)]at H;exact H
           clear H;have H:=H1;clear H1;have H':=Aside0.mk H;clear H;go_wp2
           repeat (go_quiet (fail);try go_wp2)
           go_roundg kj8
           case measure=>have:=HK1.out;have:=HK2.out;have:=HJ8.out;omega
           case rel=>exact ⟨(x5_2),(wrap64 (x6_1+1)),pr1,H',⟨by have:=HK1.out;have:=HK2.out;have:=HJ8.out;omega⟩,⟨rq HO_5.out⟩,⟨pb⟩⟩
   · rw [if_neg c8]at H;have c8b0:=decide_eq_false c8;clear c8;replace H:=Option.bind_eq_some_iff.mp H;obtain⟨t131,A270,H⟩:=H;replace H:(some t131)=some r:=H;have A27:=Aside0.mk A270;clear A270;obtain rfl:=Option.some.inj H;obtain⟨Ao28,co28,eo28⟩:=Kd.R_slice HO_5.out;subst eo28;go_wp2_with (first|(go_at_call 114;(with_reducible refine(linkworkref01_trim.calls k1 (fun k_=>some k_=(.slice Ao28 x5_1.length co28:Value).ownBlock) (.slice Ao28 x5_1.length co28) x5_1 t131 w _ ?side1 ?side2 A27.out).mono ?_);(case side1=>exact pb);(case side2=>exact Kd.R_tight rfl HO_5.out);rintro e w29 ⟨v132,rfl,ho0,hb,hkp⟩;have n0_:=Aside0.mk (Kd.R_mono (ok':=fun k_=>True) ho0 (fun k_ hk_=>trivial));have n1_:=Aside0.mk (hb);clear HB;clear HO_5;have HO133:=n0_;have HB:=n1_;clear n0_ n1_;(try clear hb);(try clear hkp);(try clear ho0)))
     repeat (go_quiet (first|(go_at_call 114;(with_reducible refine(linkworkref01_trim.calls k1 (fun k_=>some k_=(.slice Ao28 x5_1.length co28:Value).ownBlock) (.slice Ao28 x5_1.length co28) x5_1 t131 w _ ?side1 ?side2 A27.out).mono ?_);(case side1=>exact pb);(case side2=>exact Kd.R_tight rfl HO_5.out);rintro e w29 ⟨v132,rfl,ho0,hb,hkp⟩;have n0_:=Aside0.mk (Kd.R_mono (ok':=fun k_=>True) ho0 (fun k_ hk_=>trivial));have n1_:=Aside0.mk (hb);clear HB;clear HO_5;have HO133:=n0_;have HB:=n1_;clear n0_ n1_;(try clear hb);(try clear hkp);(try clear ho0)));try go_wp2_with (first|(go_at_call 114;(with_reducible refine(linkworkref01_trim.calls k1 (fun k_=>some k_=(.slice Ao28 x5_1.length co28:Value).ownBlock) (.slice Ao28 x5_1.length co28) x5_1 t131 w _ ?side1 ?side2 A27.out).mono ?_);(case side1=>exact pb);(case side2=>exact Kd.R_tight rfl HO_5.out);rintro e w29 ⟨v132,rfl,ho0,hb,hkp⟩;have n0_:=Aside0.mk (Kd.R_mono (ok':=fun k_=>True) ho0 (fun k_ hk_=>trivial));have n1_:=Aside0.mk (hb);clear HB;clear HO_5;have HO133:=n0_;have HB:=n1_;clear n0_ n1_;(try clear hb);(try clear hkp);(try clear ho0))))
     go_ret
     exact⟨_,by first|rfl|(simp [errW_none,errW_some] <;> rfl)|(simp only [←hji3];first|rfl|(simp [errW_none,errW_some] <;> rfl))|(simp [*,errW_none,errW_some] <;> rfl),rq HO133.out,pb⟩
mutual
def linkworkref01_digits.j0:Nat→ByteArray→Bool→Option (Bool)
 | 0,_,_=>none
 | k+1,x0,x21=>if x21=true then(some false)else (linkworkref01_digits.l0 k x0 0)
def linkworkref01_digits.l0:Nat→ByteArray→Int→Option (Bool)
 | 0,_,_=>none
 | k+1,x0,x3=>if x3<(x0.size:Int)then (if 0≤x3 then(if (bt x0 x3)<48 then(some false)else (if (bt x0 x3)>57 then(some false)else (linkworkref01_digits.l0 k x0 (wrap64 (x3+1)))))else (none))else (some true)
end
def linkworkref01_digits.f(k:Nat)(a0:ByteArray):Option (Bool):=if (a0.size:Int)=0 then(linkworkref01_digits.j0 k a0 true)else (if (a0.size:Int)>300 then(linkworkref01_digits.j0 k a0 true)else (if (a0.size:Int)>1 then(if 0<(a0.size:Int)then (linkworkref01_digits.j0 k a0 ((bt a0 0)==48))else (none))else (linkworkref01_digits.j0 k a0 false)))
theorem linkworkref01_digits.calls(k:Nat)(a0:ByteArray)(r:Bool)(w:World)(h:linkworkref01_digits.f k a0=some r) :
 Calls Tryz.prog 94 #[.string a0] w fun e w'=>e=.returned (.bool r)∧Drawn0 w w':=by
 have H:(if (a0.size:Int)=0 then(linkworkref01_digits.j0 k a0 true)else (if (a0.size:Int)>300 then(linkworkref01_digits.j0 k a0 true)else (if (a0.size:Int)>1 then(if 0<(a0.size:Int)then (linkworkref01_digits.j0 k a0 ((bt a0 0)==48))else (none))else (linkworkref01_digits.j0 k a0 false))))=some r:=h
 clear h
 have HC2:=Aside0.mk H
 clear H
 go_enter Tryz.func94,Tryz.ntmps94
 go_upto_region 1 with (fail)
 go_cut [21] (fun v21 wc=>∃(kq:Nat) (x21_1:Bool),v21=.bool x21_1∧Aside0 (linkworkref01_digits.j0 kq a0 x21_1=some r)∧Aside0 (kq≤k)∧Drawn0 w wc)
 case first =>
  have H:=HC2.out;clear HC2;by_cases c3:(a0.size:Int)=0
  · rw [if_pos c3]at H;have c3b0:((a0.size:Int)==0)=true:=beq_iff_eq.mpr c3;have c3b1:((a0.size:Int) !=0)=false:=bne_eq_false_iff_eq.mpr c3;clear c3;(first|rw [c3b0]|(simp only [i64_w,i32_w];rw [c3b0])|skip)
    have H':=Aside0.mk H;clear H;go_wp2
    go_meet
    case rel=>exact ⟨_,(true),pr1,H',⟨by first|omega|exact Nat.le_refl _⟩,by repeat (first|exact Drawn0.refl _|apply Drawn0.step)⟩
  · rw [if_neg c3]at H;have c3b0:((a0.size:Int)==0)=false:=beq_eq_false_iff_ne.mpr c3;have c3b1:((a0.size:Int) !=0)=true:=bne_iff_ne.mpr c3;(first|rw [c3b0]|(simp only [i64_w,i32_w];rw [c3b0])|skip)
    by_cases c4:(a0.size:Int)>300
    · rw [if_pos c4]at H;have c4b0:=decide_eq_true c4;have c4b1:decide (300<a0.size)=true:=decide_eq_true (by omega);clear c4;have H':=Aside0.mk H;clear H;go_wp2
      go_meet
      case rel=>exact ⟨_,(true),pr1,H',⟨by first|omega|exact Nat.le_refl _⟩,by repeat (first|exact Drawn0.refl _|apply Drawn0.step)⟩
    · rw [if_neg c4]at H;have c4b0:=decide_eq_false c4;have c4b1:decide (300<a0.size)=false:=decide_eq_false (by omega);clear c4;by_cases c5:(a0.size:Int)>1
      · rw [if_pos c5]at H;have c5b0:=decide_eq_true c5;have c5b1:decide (1<a0.size)=true:=decide_eq_true (by omega);clear c5;replace H:=ifs H;obtain⟨c6,H⟩:=H;have c6b0:=decide_eq_true c6;have c6b1:decide (0<a0.size)=true:=decide_eq_true (by omega);clear c6;have H':=Aside0.mk H;clear H;have p7:0≤(0:Int):=(by omega);have q7:0<a0.size:=(by have:(0:Int)<(a0.size:Int):=oda;omega);have hx7:∀h:0<a0.size,((a0[0]'h).toNat:Int)=bt a0 0:=bt_at a0 0;clear p7;have qi7:(0<(a0.size:Int))=True:=eq_true (oda);replace q7:=eq_true q7;go_wp2
        go_meet
        case rel=>exact ⟨_,(((bt a0 0)==48)),pr1,H',⟨by first|omega|exact Nat.le_refl _⟩,by repeat (first|exact Drawn0.refl _|apply Drawn0.step)⟩
      · rw [if_neg c5]at H;have c5b0:=decide_eq_false c5;have c5b1:decide (1<a0.size)=false:=decide_eq_false (by omega);clear c5;have H':=Aside0.mk H;clear H;go_wp2
        go_meet
        case rel=>exact ⟨_,(false),pr1,H',⟨by first|omega|exact Nat.le_refl _⟩,by repeat (first|exact Drawn0.refl _|apply Drawn0.step)⟩
 case rest =>
  clear HC2;try clear p2
  try clear c3
  try clear c3b0
  try clear c3b1
  try clear c4
  try clear c4b0
  try clear c4b1
  try clear c5
  try clear c5b0
  try clear c5b1
  try clear c6
  try clear c6b0
  try clear c6b1
  try clear p7
  try clear q7
  try clear hx7
  try clear qi7
  try clear p7
  try clear q7
  obtain⟨kq,x21_1,rfl,HA,HJ1,⟨mc1,rfl⟩⟩:=hcut;cases kq with
  | zero=>exact absurd HA.out (by simp [linkworkref01_digits.j0])
  | succ kj1 =>
   have H:=HA.out;clear HA;simp only [linkworkref01_digits.j0]at H;by_cases c8:x21_1=true
   · subst c8;have H1:(some false)=some r:=by rw [if_pos rfl]at H;exact H
     clear H;have H:=H1;clear H1;obtain rfl:=Option.some.inj H;go_wp2
     go_ret
     exact⟨pr1,by repeat (first|exact Drawn0.refl _|apply Drawn0.step)⟩
   · replace c8:=Bool.eq_false_iff.mpr c8;subst c8;have H1:(linkworkref01_digits.l0 kj1 a0 0)=some r:=by rw [if_neg (show ¬(false=true) by decide)]at H;exact H
     clear H;have H:=H1;clear H1;have H':=Aside0.mk H;clear H;go_wp2
     go_loopg [3] kj1 (fun kq v3 w'=>∃(x3_2:Int),v3=.int .i64 x3_2∧Aside0 (linkworkref01_digits.l0 kq a0 x3_2=some r)∧Aside0 (kq≤kj1)∧Drawn0 w w')
     case atStart=>exact ⟨(0),pr1,H',⟨Nat.le_refl _⟩,by repeat (first|exact Drawn0.refl _|apply Drawn0.step)⟩
     case round =>
      clear H';try clear c1
      try clear p2
      try clear c3
      try clear c3b0
      try clear c3b1
      try clear c4
      try clear c4b0
      try clear c4b1
      try clear c5
      try clear c5b0
      try clear c5b1
      try clear c6
      try clear c6b0
      try clear c6b1
      try clear p7
      try clear q7
      try clear hx7
      try clear qi7
      try clear c8
      try clear p2
      try clear p7
      try clear q7
      obtain⟨x3_2,rfl,HA,HK2,⟨m2,rfl⟩⟩:=hrel;cases gk with
      | zero=>exact absurd HA.out (by simp [linkworkref01_digits.l0])
      | succ k2 =>
       have H:=HA.out;clear HA;simp only [linkworkref01_digits.l0]at H;by_cases c9:x3_2<(a0.size:Int)
       · rw [if_pos c9]at H;have c9b0:=decide_eq_true c9;clear c9;replace H:=ifs H;obtain⟨c10,H⟩:=H;have c10b0:=decide_eq_true c10;clear c10;by_cases c12:(bt a0 x3_2)<48
         · rw [if_pos c12]at H;have c12b0:=decide_eq_true c12;clear c12;obtain rfl:=Option.some.inj H;have p11:0≤(x3_2:Int):=oda;have q11:x3_2<(a0.size:Int):=oda;have hx11:=bt_at a0 x3_2;replace p11:=eq_true p11;replace q11:=eq_true q11;go_wp2
           go_ret
           exact⟨pr1,by repeat (first|exact Drawn0.refl _|apply Drawn0.step)⟩
         · rw [if_neg c12]at H;have c12b0:=decide_eq_false c12;clear c12;by_cases c14:(bt a0 x3_2)>57
           · rw [if_pos c14]at H;have c14b0:=decide_eq_true c14;clear c14;obtain rfl:=Option.some.inj H;have p11:0≤(x3_2:Int):=oda;have q11:x3_2<(a0.size:Int):=oda;have hx11:=bt_at a0 x3_2;replace p11:=eq_true p11;replace q11:=eq_true q11;have p13:0≤(x3_2:Int):=oda;have q13:x3_2<(a0.size:Int):=oda;have hx13:=bt_at a0 x3_2;replace p13:=eq_true p13;replace q13:=eq_true q13;go_wp2
             go_ret
             exact⟨pr1,by repeat (first|exact Drawn0.refl _|apply Drawn0.step)⟩
           · rw [if_neg c14]at H;have c14b0:=decide_eq_false c14;clear c14;have H':=Aside0.mk H;clear H;have p11:0≤(x3_2:Int):=oda;have q11:x3_2<(a0.size:Int):=oda;have hx11:=bt_at a0 x3_2;replace p11:=eq_true p11;replace q11:=eq_true q11;have p13:0≤(x3_2:Int):=oda;have q13:x3_2<(a0.size:Int):=oda;have hx13:=bt_at a0 x3_2;replace p13:=eq_true p13;replace q13:=eq_true q13;go_wp2
             go_roundg k2
             case measure=>have:=HJ1.out;have:=HK2.out;omega
             case rel=>exact ⟨(wrap64 (x3_2+1)),pr1,H',⟨by have:=HJ1.out;have:=HK2.out;omega⟩,by repeat (first|exact Drawn0.refl _|apply Drawn0.step)⟩
       · rw [if_neg c9]at H;have c9b0:=decide_eq_false c9;clear c9;obtain rfl:=Option.some.inj H;go_wp2
         go_ret
         exact⟨pr1,by repeat (first|exact Drawn0.refl _|apply Drawn0.step)⟩
mutual
def linkworkref01_readNat.l0:Nat→ByteArray→List Int→Int→Option (List Int)
 | 0,_,_,_=>none
 | k+1,x0,x3,x4=>if x4>0 then(linkworkref01_readNat.l1 k x0 x3 x4 0 (mx 0 (wrap64 (x4-4))))else ((linkworkref01_trim.f k x3).bind fun t139=>(some t139))
def linkworkref01_readNat.l1:Nat→ByteArray→List Int→Int→Int→Int→Option (List Int)
 | 0,_,_,_,_,_=>none
 | k+1,x0,x3,x4,x5,x6=>if x6<x4 then(if 0≤x6 then(if x6<(x0.size:Int)then (linkworkref01_readNat.l1 k x0 x3 x4 (wrap64 ((wrap64 (10*x5))+(((bt x0 x6)-48)%256))) (wrap64 (x6+1)))else (none))else (none))else (if x3.length<17592186044416 then(linkworkref01_readNat.l0 k x0 (x3++ [x5]) (wrap64 (x4-4)))else (none))
end
def linkworkref01_readNat.f(k:Nat)(a0:ByteArray):Option (List Int):=linkworkref01_readNat.l0 k a0 ([]:List Int) (a0.size:Int)
theorem linkworkref01_readNat.calls(k:Nat)(a0:ByteArray)(r:List Int)(w:World)(h:linkworkref01_readNat.f k a0=some r) :
 Calls Tryz.prog 95 #[.string a0] w fun e w'=>∃v0_:Value,e=.returned (v0_)∧Kd.R (Kd.int .i64) 3 w' w.heap.size (fun _=>True) v0_ r∧Below w.heap.size w w':=by
 have HB:=Aside0.mk (Below.refl w.heap.size w)
 have H:(linkworkref01_readNat.l0 k a0 ([]:List Int) (a0.size:Int))=some r:=h
 clear h
 have H':=Aside0.mk H
 clear H
 go_enter Tryz.func95,Tryz.ntmps95
 go_wp2
 go_loopg [3,4] k (fun kq v3 v4 w'=>∃(x3_1:List Int) (x4_1:Int),v4=.int .i64 x4_1∧Aside0 (linkworkref01_readNat.l0 kq a0 x3_1 x4_1=some r)∧Aside0 (kq≤k)∧Aside0 (Kd.R (Kd.int .i64) 3 w' w.heap.size (fun _=>True) v3 x3_1)∧Aside0 (Below w.heap.size w w'))
 case atStart=>exact ⟨(([]:List Int)),((a0.size:Int)),pr1,H',⟨Nat.le_refl _⟩,⟨by first|exact Kd.R_nil _ _ _ _ _|exact Kd.N_nil _ _ _ _ _|exact Kd.V_nil _ _ _ _ _|exact Kd.Q_nil _ _ _ _ _|exact Kd.S_nil _ _ _ _ _⟩,⟨pb⟩⟩
 case round =>
  clear H';obtain⟨x3_1,x4_1,rfl,HA,HK1,HO_3,HB⟩:=hrel;cases gk with
  | zero=>exact absurd HA.out (by simp [linkworkref01_readNat.l0])
  | succ k1 =>
   have H:=HA.out;clear HA;simp only [linkworkref01_readNat.l0]at H;by_cases c2:x4_1>0
   · rw [if_pos c2]at H;have c2b0:=decide_eq_true c2;clear c2;obtain⟨ji3,hji3⟩:∃j_:Int,(mx 0 (wrap64 (x4_1-4)))=j_:=⟨_,rfl⟩;replace H:(linkworkref01_readNat.l1 k1 a0 x3_1 x4_1 0 ji3)=some r:=by first|(rw [hji3]at H;exact H)|(simp only [hji3]at H ⊢;exact H)
     have hji3_:(if 0<(wrap64 (x4_1-4))then (wrap64 (x4_1-4))else 0)=ji3:=hji3;have H':=Aside0.mk H;clear H;go_wp2
     go_loopg [5,6] k1 (fun kq v5 v6 w'=>∃(x5_2:Int) (x6_2:Int),v5=.int .i64 x5_2∧v6=.int .i64 x6_2∧Aside0 (linkworkref01_readNat.l1 kq a0 x3_1 x4_1 x5_2 x6_2=some r)∧Aside0 (kq≤k1)∧Aside0 (Kd.R (Kd.int .i64) 3 w' w.heap.size (fun _=>True) u3 x3_1)∧Aside0 (Below w.heap.size w w'))
     case atStart=>exact ⟨(0),(ji3),pr1,(by first|rfl|(simp;done)|(simp only [←hji3] <;> (first|rfl|simp))|(simp [*];done)),H',⟨Nat.le_refl _⟩,⟨rq HO_3.out⟩,⟨pb⟩⟩
     case round =>
      clear H';try clear c2
      try clear c2b0
      try clear p2
      obtain⟨x5_2,x6_2,rfl,rfl,HA,HK2,HO_3,HB⟩:=hrel;cases gk with
      | zero=>exact absurd HA.out (by simp [linkworkref01_readNat.l1])
      | succ k2 =>
       have H:=HA.out;clear HA;simp only [linkworkref01_readNat.l1]at H;by_cases c4:x6_2<x4_1
       · rw [if_pos c4]at H;have c4b0:=decide_eq_true c4;clear c4;replace H:=ifs H;obtain⟨c5,H⟩:=H;have c5b0:=decide_eq_true c5;clear c5;replace H:=ifs H;obtain⟨c6,H⟩:=H;have c6b0:=decide_eq_true c6;clear c6;have H':=Aside0.mk H;clear H;have p7:0≤(x6_2:Int):=oda;have q7:x6_2<(a0.size:Int):=oda;have hx7:=bt_at a0 x6_2;replace p7:=eq_true p7;replace q7:=eq_true q7;go_wp2
         go_roundg k2
         case measure=>have:=HK1.out;have:=HK2.out;omega
         case rel=>exact ⟨(wrap64 ((wrap64 (10*x5_2))+(((bt a0 x6_2)-48)%256))),(wrap64 (x6_2+1)),pr1,pr1,H',⟨by have:=HK1.out;have:=HK2.out;omega⟩,⟨rq HO_3.out⟩,⟨pb⟩⟩
       · rw [if_neg c4]at H;have c4b0:=decide_eq_false c4;clear c4;replace H:=ifs H;obtain⟨c8,H⟩:=H;have LMc8:=Aside0.mk c8;clear c8;obtain⟨y142,hy142⟩:∃y_:List Int,y_=(x3_1++ [x5_2]):=⟨_,rfl⟩;replace H:(linkworkref01_readNat.l0 k2 a0 y142 (wrap64 (x4_1-4)))=some r:=ry hy142 H;have Ny142:=Aside0.mk hy142;clear hy142;have H':=Aside0.mk H;clear H;go_wp2_with (first|((with_reducible refine gate_builtin (b:=.append) (xs:= #[.tmp 29,.tmp 31]) rfl ?_);at_builtin;refine Kd.R_append (Kd.int .i64) (w0:=w) w.heap.size rfl (.tmp 29) (.tmp 31) 58 3 (.int .i64 0) 8 rfl Tryz.underlying58 info3 rfl (by decide) (by omega) u3 x3_1 x5_2 [.int .i64 x5_2] (fun _=>True) (fun _=>False) rfl rfl ?aP (fun _ hk=>hk.elim) ?aF ?aO ?aB ?aS ?aL ?_;(case aP=>exact rfl);(case aB=>exact pb);(case aF=>exact (fun _ _=>trivial));(case aO=>exact (rq HO_3.out));(case aS=>exact (below_size pb));(case aL=>have:=LMc8.out;omega);intro v143 w9 ho hb hg hat;rw [←Ny142.out]at ho;have n0_:=Aside0.mk (hb);have n1_:=Aside0.mk (ho);clear HB;clear HO_3;have HB:=n0_;have HO144:=n1_;clear n0_ n1_;clear ho hb hg hat))
         go_roundg k2
         case measure=>have:=HK1.out;have:=HK2.out;omega
         case rel=>exact ⟨(y142),(wrap64 (x4_1-4)),pr1,H',⟨by have:=HK1.out;have:=HK2.out;omega⟩,⟨rq HO144.out⟩,⟨pb⟩⟩
   · rw [if_neg c2]at H;have c2b0:=decide_eq_false c2;clear c2;replace H:=Option.bind_eq_some_iff.mp H;obtain⟨t139,A100,H⟩:=H;replace H:(some t139)=some r:=H;have A10:=Aside0.mk A100;clear A100;obtain rfl:=Option.some.inj H;obtain⟨Ao11,co11,eo11⟩:=Kd.R_slice HO_3.out;subst eo11;go_wp2_with (first|((with_reducible refine gate_callee (f:=114) rfl ?_);refine goesL_ (some 34) rfl rfl Tryz.func114 (by kernel_rfl) rfl #[.slice Ao11 x3_1.length co11] rfl (by(try simp only [List.map_toArray,List.map_cons,List.map_nil]);first|done|rfl|(simp only [List.length_drop,List.length_take];rfl)) ?_;(with_reducible refine(linkworkref01_trim.calls k1 (fun k_=>some k_=(.slice Ao11 x3_1.length co11:Value).ownBlock) (.slice Ao11 x3_1.length co11) x3_1 t139 w _ ?side1 ?side2 A10.out).mono ?_);(case side1=>exact pb);(case side2=>exact Kd.R_tight rfl HO_3.out);rintro e w12 ⟨v140,rfl,ho0,hb,hkp⟩;refine⟨_,rfl,?_⟩;have n0_:=Aside0.mk (Kd.R_mono (ok':=fun k_=>True) ho0 (fun k_ hk_=>trivial));have n1_:=Aside0.mk (hb);clear HB;clear HO_3;have HO141:=n0_;have HB:=n1_;clear n0_ n1_;(try clear hb);(try clear hkp);(try clear ho0)))
     go_ret
     exact⟨_,pr2,rq HO141.out,pb⟩
end Go.Proofs.YtpdghgfbfmaplaaGreatDoor.PRef
end
section
namespace Go.Proofs.YtpdghgfbfmaplaaGreatDoor.PRef
open Go.RowKit Go.Proofs.YtpdghgfbfmaplaaGreatDoorW.PrintWords Go.Proofs.YtpdghgfbfmaplaaGreatDoorW.PrintLast Go.Proofs.YtpdghgfbfmaplaaGreatDoorW.PrintMore
attribute [local go_sem] max2_int min2_int max_two min_two max_three min_three max_four min_four   -- for this text's walks alone
set_option linter.unusedVariables false
set_option linter.unusedSimpArgs false
def linkworkref01_sizeNat.l0:Nat→Int→Int→Option (Int)
 | 0,_,_=>none
 | k+1,x3,x4=>if x4>0 then(linkworkref01_sizeNat.l0 k (wrap64 (x3+1)) (wrap64 (Int.tdiv x4 10)))else (some x3)
def linkworkref01_sizeNat.f(k:Nat)(l0:List Int):Option (Int):=if (l0.length:Int)=0 then(some 1)else (if 0≤(wrap64 ((l0.length:Int)-1))then (if (wrap64 ((l0.length:Int)-1))<(l0.length:Int)then (linkworkref01_sizeNat.l0 k (wrap64 (4*(wrap64 ((l0.length:Int)-1)))) (rd l0 (wrap64 ((l0.length:Int)-1))))else (none))else (none))
theorem linkworkref01_sizeNat.calls(k:Nat)(A0:Option Addr)(c0:Nat)(l0:List Int)(r:Int)(w:World)(hr0:Kd.C (Kd.int .i64) w A0 l0.length l0)(hc0:l0.length≤c0)(h:linkworkref01_sizeNat.f k l0=some r) :
 Calls Tryz.prog 108 #[.slice A0 l0.length c0] w fun e w'=>e=.returned (.int .i64 r)∧Drawn0 w w':=by
 have HR0:=Aside0.mk hr0
 have HC0:=Aside0.mk hc0
 clear hr0 hc0
 have H:(if (l0.length:Int)=0 then(some 1)else (if 0≤(wrap64 ((l0.length:Int)-1))then (if (wrap64 ((l0.length:Int)-1))<(l0.length:Int)then (linkworkref01_sizeNat.l0 k (wrap64 (4*(wrap64 ((l0.length:Int)-1)))) (rd l0 (wrap64 ((l0.length:Int)-1))))else (none))else (none)))=some r:=h
 clear h
 by_cases c2:(l0.length:Int)=0
 · rw [if_pos c2]at H;have c2b0:((l0.length:Int)==0)=true:=beq_iff_eq.mpr c2;have c2b1:((l0.length:Int) !=0)=false:=bne_eq_false_iff_eq.mpr c2;clear c2;obtain rfl:=Option.some.inj H;go_enter Tryz.func108,Tryz.ntmps108
   go_wp2
   go_ret
   exact⟨pr1,by repeat (first|exact Drawn0.refl _|apply Drawn0.step)⟩
 · rw [if_neg c2]at H;have c2b0:((l0.length:Int)==0)=false:=beq_eq_false_iff_ne.mpr c2;have c2b1:((l0.length:Int) !=0)=true:=bne_iff_ne.mpr c2;have c2b2:¬(l0= []):=fun h_=>c2 (by rw [h_];rfl)
   obtain⟨ji3,hji3⟩:∃j_:Int,(wrap64 ((l0.length:Int)-1))=j_:=⟨_,rfl⟩;replace H:(if 0≤(ji3)then (if (ji3)<(l0.length:Int)then (linkworkref01_sizeNat.l0 k (wrap64 (4*(ji3))) (rd l0 (ji3)))else (none))else (none))=some r:=by first|(rw [hji3]at H;exact H)|(simp only [hji3]at H ⊢;exact H)
   have hji3w:(IntKind.i64.wrap ((l0.length:Int)-1))=ji3:=(i64_w _).trans hji3;replace H:=ifs H;obtain⟨c4,H⟩:=H;have c4b0:=decide_eq_true c4;clear c4;replace H:=ifs H;obtain⟨c5,H⟩:=H;have c5b0:=decide_eq_true c5;clear c5;have H':=Aside0.mk H;clear H;have p145:0≤((ji3):Int):=oda;have q145:(ji3)<(l0.length:Int):=oda;obtain⟨ad145,e145,hx145_0⟩:=Kd.at_int HR0.out (ji3) p145 q145;cases e145;replace p145:=eq_true p145;replace q145:=eq_true q145;go_enter Tryz.func108,Tryz.ntmps108
   go_wp2
   go_loopg [3,4] k (fun kq v3 v4 w'=>∃(x3_1:Int) (x4_1:Int),v3=.int .i64 x3_1∧v4=.int .i64 x4_1∧Aside0 (linkworkref01_sizeNat.l0 kq x3_1 x4_1=some r)∧Aside0 (kq≤k)∧Drawn0 w w')
   case atStart=>exact ⟨(wrap64 (4*(ji3))),(rd l0 (ji3)),(by first|rfl|(simp;done)|(simp only [←hji3] <;> (first|rfl|simp))|(simp [*];done)),(by first|rfl|(simp;done)|(simp only [←hji3] <;> (first|rfl|simp))|(simp [*];done)),H',⟨Nat.le_refl _⟩,by repeat (first|exact Drawn0.refl _|apply Drawn0.step)⟩
   case round =>
    clear H';try clear c1
    try clear p1
    try clear q1
    try clear hx1
    try clear c2
    try clear c2b0
    try clear c2b1
    try clear c2b2
    try clear p2
    try clear c4
    try clear c4b0
    try clear c5
    try clear c5b0
    try clear hx145_0
    try clear p145
    try clear q145
    obtain⟨x3_1,x4_1,rfl,rfl,HA,HK1,⟨m1,rfl⟩⟩:=hrel;cases gk with
    | zero=>exact absurd HA.out (by simp [linkworkref01_sizeNat.l0])
    | succ k1 =>
     have H:=HA.out;clear HA;simp only [linkworkref01_sizeNat.l0]at H;by_cases c6:x4_1>0
     · rw [if_pos c6]at H;have c6b0:=decide_eq_true c6;clear c6;have H':=Aside0.mk H;clear H;go_wp2
       go_roundg k1
       case measure=>have:=HK1.out;omega
       case rel=>exact ⟨(wrap64 (x3_1+1)),(wrap64 (Int.tdiv x4_1 10)),pr1,pr1,H',⟨by have:=HK1.out;omega⟩,by repeat (first|exact Drawn0.refl _|apply Drawn0.step)⟩
     · rw [if_neg c6]at H;have c6b0:=decide_eq_false c6;clear c6;obtain rfl:=Option.some.inj H;go_wp2
       go_ret
       exact⟨by first|rfl|(simp;done)|(simp only [←hji3] <;> (first|rfl|simp))|(simp [*];done),by repeat (first|exact Drawn0.refl _|apply Drawn0.step)⟩
mutual
def linkworkref01_textNat.l0:Nat→List Int→List Int→Int→Option (ByteArray)
 | 0,_,_,_=>none
 | k+1,x0,x3,x4=>if x4<(x3.length:Int)then (if 0≤x4 then(linkworkref01_textNat.l0 k x0 (x3.set (x4:Int).toNat 48) (wrap64 (x4+1)))else (none))else (linkworkref01_textNat.l1 k x0 x3 (wrap64 ((x3.length:Int)-1)) 0)
def linkworkref01_textNat.l1:Nat→List Int→List Int→Int→Int→Option (ByteArray)
 | 0,_,_,_,_=>none
 | k+1,x0,x3,x5,x6=>if x6<(x0.length:Int)then (if 0≤x6 then(linkworkref01_textNat.l2 k x0 x3 x5 x6 (rd x0 x6) 0)else (none))else (some (strOfNums x3))
def linkworkref01_textNat.l2:Nat→List Int→List Int→Int→Int→Int→Int→Option (ByteArray)
 | 0,_,_,_,_,_,_=>none
 | k+1,x0,x3,x5,x6,x7,x8=>if x8<4 then(if x5≥0 then(if 0≤x5 then(if x5<(x3.length:Int)then (linkworkref01_textNat.l2 k x0 (x3.set (x5:Int).toNat ((wrap64 (48+(Int.tmod x7 10)))%256)) (wrap64 (x5-1)) x6 (wrap64 (Int.tdiv x7 10)) (wrap64 (x8+1)))else (none))else (none))else (linkworkref01_textNat.l1 k x0 x3 x5 (wrap64 (x6+1))))else (linkworkref01_textNat.l1 k x0 x3 x5 (wrap64 (x6+1)))
end
def linkworkref01_textNat.f(k:Nat)(l0:List Int):Option (ByteArray):=(linkworkref01_sizeNat.f k l0).bind fun t146=>(if 0≤t146 then(if (t146:Int).toNat≤281474976710656 then(linkworkref01_textNat.l0 k l0 (List.replicate (t146:Int).toNat 0) 0)else (none))else (none))
theorem linkworkref01_textNat.calls(k:Nat)(A0:Option Addr)(c0:Nat)(l0:List Int)(r:ByteArray)(w:World)(hr0:Kd.C (Kd.int .i64) w A0 l0.length l0)(hc0:l0.length≤c0)(h:linkworkref01_textNat.f k l0=some r) :
 Calls Tryz.prog 68 #[.slice A0 l0.length c0] w fun e w'=>e=.returned (.string r)∧Below w.heap.size w w':=by
 have HR0:=Aside0.mk hr0
 have HC0:=Aside0.mk hc0
 clear hr0 hc0
 have HB:=Aside0.mk (Below.refl w.heap.size w)
 have H:((linkworkref01_sizeNat.f k l0).bind fun t146=>(if 0≤t146 then(if (t146:Int).toNat≤281474976710656 then(linkworkref01_textNat.l0 k l0 (List.replicate (t146:Int).toNat 0) 0)else (none))else (none)))=some r:=h
 clear h
 replace H:=Option.bind_eq_some_iff.mp H
 obtain⟨t146,A20,H⟩:=H
 replace H:(if 0≤t146 then(if (t146:Int).toNat≤281474976710656 then(linkworkref01_textNat.l0 k l0 (List.replicate (t146:Int).toNat 0) 0)else (none))else (none))=some r:=H
 have A2:=Aside0.mk A20
 clear A20
 replace H:=ifs H
 obtain⟨c3,H⟩:=H
 have c3b0:=eq_true c3
 have c3b1:=decide_eq_true c3
 clear c3
 replace H:=ifs H
 obtain⟨c4,H⟩:=H
 have c4b0:=eq_true c4
 have c4b1:=decide_eq_true c4
 clear c4
 obtain⟨y147,hy147⟩:∃y_:List Int,y_=(List.replicate (t146:Int).toNat 0):=⟨_,rfl⟩
 replace H:(linkworkref01_textNat.l0 k l0 y147 0)=some r:=ry hy147 H
 have Ny147:=Aside0.mk hy147
 clear hy147
 have H':=Aside0.mk H
 clear H
 go_enter Tryz.func68,Tryz.ntmps68
 go_wp2_with (first|((with_reducible refine gate_callee (f:=108) rfl ?_);refine goesL_ (some 10) rfl rfl Tryz.func108 (by kernel_rfl) rfl #[.slice A0 l0.length c0] rfl (by(try simp only [List.map_toArray,List.map_cons,List.map_nil]);first|done|rfl|(simp only [List.length_drop,List.length_take];rfl)) ?_;(with_reducible refine(linkworkref01_sizeNat.calls k _ _ l0 t146 _ ?side1 ?side2 A2.out).mono ?_);(case side1=>repeat (first|exact HR0.out|(with_reducible refine Kd.C_alloc ?_ _)|(with_reducible refine Kd.C_drewN ?_ _)|(with_reducible refine Kd.C_drew ?_)));(case side2=>exact HC0.out);rintro e w' ⟨rfl,⟨nd,rfl⟩⟩;refine⟨_,rfl,?_⟩)|((with_reducible refine gate_dst (N:=11) rfl ?_);refine Kd.R_make (Kd.int .u8) _ 5 rfl (N:=11) rfl 101 _ _ rfl t146 rfl rfl Tryz.underlying101 (.int .u8 0) 1 info5 rfl (by decide) (by omega) 0 (ok:=fun _=>True) (okp:=fun _=>True) rfl (fun _ hk=>hk) trivial (oda) (Nat.le_trans (Nat.mul_le_mul_right _ (oda:t146.toNat≤281474976710656)) (by omega)) (Below.refl _ _) (Nat.le_refl _) ?_;intro v148 w5 ho6 hb hg_ hnew_;clear hg_ hnew_;(first|rw [←Ny147.out]at ho6|(simp only [Int.reduceToNat]at ho6;rw [←Ny147.out]at ho6));have n0_:=Aside0.mk (Kd.R_lower ho6 (below_size pb));have n1_:=Aside0.mk (below_step pb hb);clear HB;have HO149:=n0_;have HB:=n1_;clear n0_ n1_;clear hb ho6))
 go_loopg [4] k (fun kq v4 w'=>∃(x3_1:List Int) (x4_1:Int),v4=.int .i64 x4_1∧Aside0 (linkworkref01_textNat.l0 kq l0 x3_1 x4_1=some r)∧Aside0 (kq≤k)∧Aside0 (Kd.R (Kd.int .u8) 5 w' w.heap.size (fun _=>True) v148 x3_1)∧Aside0 (Below w.heap.size w w'))
 case atStart=>exact ⟨(y147),(0),pr1,H',⟨Nat.le_refl _⟩,⟨rq HO149.out⟩,⟨pb⟩⟩
 case round =>
  clear H';try clear c1
  try clear p2
  try clear c3
  try clear c3b0
  try clear c3b1
  try clear c4
  try clear c4b0
  try clear c4b1
  try clear c6
  obtain⟨x3_1,x4_1,rfl,HA,HK1,HO_3,HB⟩:=hrel;cases gk with
  | zero=>exact absurd HA.out (by simp [linkworkref01_textNat.l0])
  | succ k1 =>
   have H:=HA.out;clear HA;simp only [linkworkref01_textNat.l0]at H;by_cases c7:x4_1<(x3_1.length:Int)
   · rw [if_pos c7]at H;have c7b0:=decide_eq_true c7;clear c7;replace H:=ifs H;obtain⟨c8,H⟩:=H;have c8b0:=decide_eq_true c8;clear c8;obtain⟨y150,hy150⟩:∃y_:List Int,y_=(x3_1.set (x4_1:Int).toNat 48):=⟨_,rfl⟩;replace H:(linkworkref01_textNat.l0 k1 l0 y150 (wrap64 (x4_1+1)))=some r:=ry hy150 H;have Ny150:=Aside0.mk hy150;clear hy150;have H':=Aside0.mk H;clear H;obtain⟨Ao10,co10,eo10⟩:=Kd.R_slice HO_3.out;subst eo10;have p9:0≤(x4_1:Int):=oda;have q9:(x4_1:Int)<((x3_1.length:Int):Int):=oda;obtain⟨go9,co9,eo9,gb9,gl9,cl9,HG9⟩:=Kd.R_form HO_3.out (by omega);(first|cases eo9|(injection eo9 with ea_ en_ ec_;(first|subst ea_|(injection ea_ with ea_;subst ea_));subst ec_;clear en_))
     have GB9:=Aside0.mk gb9;have GG9:=Aside0.mk HG9;clear gb9 gl9 HG9;obtain⟨hx9_0,hf9_0⟩:=Kd.R_celln 0 HO_3.out (x4_1:Int) p9 q9;replace p9:=eq_true p9;replace q9:=eq_true q9;have HP11:=Kd.R_putg HO_3.out (x4_1:Int) 48;go_wp2_with (first|((with_reducible refine gate_store (t:=5) (p:=20) rfl ?_);refine store_event (t:=5) (p:=20) (v:=?vo_w12) (w1:=(wr.setCell ⟨go9,(x4_1:Int).toNat,none⟩ (.int .u8 48))) ?hg ?ho ?hn ?hr ?_;(case ho=>rfl);(case hg=>rfl);(case hn=>rfl);(case hr=>first|(go_simp;done)|(go_simp;rfl));intro w12 hw;have hg:wr.grownBy w12 (some go9):=(by rw [hw];exact HP11.2);have hp_:Kd.R (Kd.int .u8) 5 w12 w.heap.size (fun _=>True) (.slice (some ⟨go9,0,none⟩) x3_1.length co10) y150:=(by rw [hw,Ny150.out];exact HP11.1);clear HP11;have n0_:=Aside0.mk (hp_);have n1_:=Aside0.mk ((by rw [hw];exact below_set (HB.out) GB9.out:Below w.heap.size w w12));clear HO_3;clear HB;have HO_3:=n0_;have HB:=n1_;clear n0_ n1_;clear hg hw hp_))
     go_roundg k1
     case measure=>have:=HK1.out;omega
     case rel=>exact ⟨(y150),(wrap64 (x4_1+1)),pr1,H',⟨by have:=HK1.out;omega⟩,⟨rq HO_3.out⟩,⟨pb⟩⟩
   · rw [if_neg c7]at H;have c7b0:=decide_eq_false c7;clear c7;have H':=Aside0.mk H;clear H;obtain⟨Ao13,co13,eo13⟩:=Kd.R_slice HO_3.out;subst eo13;go_wp2
     go_loopg [5,6] k1 (fun kq v5 v6 w'=>∃(x3_2:List Int) (x5_2:Int) (x6_2:Int),v5=.int .i64 x5_2∧v6=.int .i64 x6_2∧Aside0 (linkworkref01_textNat.l1 kq l0 x3_2 x5_2 x6_2=some r)∧Aside0 (kq≤k1)∧Aside0 (Kd.R (Kd.int .u8) 5 w' w.heap.size (fun _=>True) (.slice Ao13 x3_1.length co13) x3_2)∧Aside0 (Below w.heap.size w w'))
     case atStart=>exact ⟨(x3_1),(wrap64 ((x3_1.length:Int)-1)),(0),pr1,pr1,H',⟨Nat.le_refl _⟩,⟨rq HO_3.out⟩,⟨pb⟩⟩
     case round =>
      clear H';try clear c1
      try clear p2
      try clear c3
      try clear c3b0
      try clear c3b1
      try clear c4
      try clear c4b0
      try clear c4b1
      try clear c6
      try clear p6
      try clear c7
      try clear c7b0
      try clear c8
      try clear c8b0
      try clear p9
      try clear q9
      try clear hx9
      try clear hf9
      try clear c10
      try clear hx9_0
      try clear p2
      try clear p9
      try clear q9
      obtain⟨x3_2,x5_2,x6_2,rfl,rfl,HA,HK2,HO_3,HB⟩:=hrel;have hl3_2:=(Kd.R_reads' HO_3.out).1;rw [hl3_2]at HO_3;(try simp only [hl3_2])
      cases gk with
      | zero=>exact absurd HA.out (by simp [linkworkref01_textNat.l1])
      | succ k2 =>
       have H:=HA.out;clear HA;simp only [linkworkref01_textNat.l1]at H;by_cases c14:x6_2<(l0.length:Int)
       · rw [if_pos c14]at H;have c14b0:=decide_eq_true c14;clear c14;replace H:=ifs H;obtain⟨c15,H⟩:=H;have c15b0:=decide_eq_true c15;clear c15;have H':=Aside0.mk H;clear H;have p151:0≤(x6_2:Int):=oda;have q151:x6_2<(l0.length:Int):=oda;obtain⟨ad151,e151,hx151_0⟩:=Kd.at_int HR0.out x6_2 p151 q151;cases e151;replace hx151_0:=(HB.out.cell (World.block_lt_of_cell? w _ hx151_0)).trans hx151_0;replace p151:=eq_true p151;replace q151:=eq_true q151;go_wp2
         go_loopg [5,7,8] k2 (fun kq v5 v7 v8 w'=>∃(x3_3:List Int) (x5_3:Int) (x7_3:Int) (x8_3:Int),v5=.int .i64 x5_3∧v7=.int .i64 x7_3∧v8=.int .i64 x8_3∧Aside0 (linkworkref01_textNat.l2 kq l0 x3_3 x5_3 x6_2 x7_3 x8_3=some r)∧Aside0 (kq≤k2)∧Aside0 (Kd.R (Kd.int .u8) 5 w' w.heap.size (fun _=>True) (.slice Ao13 x3_2.length co13) x3_3)∧Aside0 (Below w.heap.size w w'))
         case atStart=>exact ⟨(x3_2),(x5_2),(rd l0 x6_2),(0),pr1,pr1,pr1,H',⟨Nat.le_refl _⟩,⟨by (try simp only [hl3_2]);(with_reducible repeat (first|apply Kd.R_alloc|apply Kd.R_drewN|apply Kd.R_drew));exact HO_3.out⟩,⟨pb⟩⟩
         case round =>
          clear H';try clear c1
          try clear p1
          try clear q1
          try clear hx1
          try clear p2
          try clear c3
          try clear c3b0
          try clear c3b1
          try clear c4
          try clear c4b0
          try clear c4b1
          try clear c6
          try clear p6
          try clear c7
          try clear c7b0
          try clear c8
          try clear c8b0
          try clear p9
          try clear q9
          try clear hx9
          try clear hf9
          try clear c10
          try clear c14
          try clear c14b0
          try clear c15
          try clear c15b0
          try clear p15
          try clear q15
          try clear hx15
          try clear hx151_0
          try clear hx9_0
          try clear p151
          try clear p2
          try clear p6
          try clear p9
          try clear q151
          try clear q9
          obtain⟨x3_3,x5_3,x7_3,x8_3,rfl,rfl,rfl,HA,HK3,HO_3,HB⟩:=hrel;have hl3_3:=(Kd.R_reads' HO_3.out).1;rw [hl3_3]at HO_3;(try simp only [hl3_3])
          cases gk with
          | zero=>exact absurd HA.out (by simp [linkworkref01_textNat.l2])
          | succ k3 =>
           have H:=HA.out;clear HA;simp only [linkworkref01_textNat.l2]at H;by_cases c16:x8_3<4
           · rw [if_pos c16]at H;have c16b0:=decide_eq_true c16;clear c16;by_cases c17:x5_3≥0
             · rw [if_pos c17]at H;have c17b0:=decide_eq_true c17;clear c17;replace H:=ifs H;obtain⟨c18,H⟩:=H;have c18b0:=decide_eq_true c18;clear c18;replace H:=ifs H;obtain⟨c19,H⟩:=H;have c19b0:=decide_eq_true c19;clear c19;obtain⟨y152,hy152⟩:∃y_:List Int,y_=(x3_3.set (x5_3:Int).toNat ((wrap64 (48+(Int.tmod x7_3 10)))%256)):=⟨_,rfl⟩;replace H:(linkworkref01_textNat.l2 k3 l0 y152 (wrap64 (x5_3-1)) x6_2 (wrap64 (Int.tdiv x7_3 10)) (wrap64 (x8_3+1)))=some r:=ry hy152 H;have Ny152:=Aside0.mk hy152;clear hy152;have H':=Aside0.mk H;clear H;have p20:0≤(x5_3:Int):=oda;have q20:(x5_3:Int)<((x3_3.length:Int):Int):=oda;obtain⟨go20,co20,eo20,gb20,gl20,cl20,HG20⟩:=Kd.R_form HO_3.out (by omega);(first|cases eo20|(injection eo20 with ea_ en_ ec_;(first|subst ea_|(injection ea_ with ea_;subst ea_));subst ec_;clear en_))
               have GB20:=Aside0.mk gb20;have GG20:=Aside0.mk HG20;clear gb20 gl20 HG20;obtain⟨hx20_0,hf20_0⟩:=Kd.R_celln 0 HO_3.out (x5_3:Int) p20 q20;replace p20:=eq_true p20;replace q20:=eq_true q20;have HP21:=Kd.R_putg HO_3.out (x5_3:Int) ((wrap64 (48+(Int.tmod x7_3 10)))%256);go_wp2_with (first|((with_reducible refine gate_store (t:=5) (p:=48) rfl ?_);refine store_event (t:=5) (p:=48) (v:=?vo_w22) (w1:=(wr.setCell ⟨go20,(x5_3:Int).toNat,none⟩ (.int .u8 ((wrap64 (48+(Int.tmod x7_3 10)))%256)))) ?hg ?ho ?hn ?hr ?_;(case ho=>rfl);(case hg=>rfl);(case hn=>rfl);(case hr=>first|(go_simp;done)|(go_simp;rfl));intro w22 hw;have hg:wr.grownBy w22 (some go20):=(by rw [hw];exact HP21.2);have hp_:Kd.R (Kd.int .u8) 5 w22 w.heap.size (fun _=>True) (.slice (some ⟨go20,0,none⟩) x3_3.length co13) y152:=(by rw [hw,Ny152.out];exact HP21.1);clear HP21;have n0_:=Aside0.mk (hp_);have n1_:=Aside0.mk ((by rw [hw];exact below_set (HB.out) GB20.out:Below w.heap.size w w22));clear HO_3;clear HB;have HO_3:=n0_;have HB:=n1_;clear n0_ n1_;clear hg hw hp_))
               (try simp only [←hl3_3])
               go_roundg k3
               case measure=>have:=HK1.out;have:=HK2.out;have:=HK3.out;omega
               case rel=>exact ⟨(y152),(wrap64 (x5_3-1)),(wrap64 (Int.tdiv x7_3 10)),(wrap64 (x8_3+1)),pr1,pr1,pr1,H',⟨by have:=HK1.out;have:=HK2.out;have:=HK3.out;omega⟩,⟨by (try simp only [hl3_2]);(try simp only [hl3_3]);(with_reducible repeat (first|apply Kd.R_alloc|apply Kd.R_drewN|apply Kd.R_drew));exact HO_3.out⟩,⟨pb⟩⟩
             · rw [if_neg c17]at H;have c17b0:=decide_eq_false c17;clear c17;have H':=Aside0.mk H;clear H;go_wp2
               (try simp only [←hl3_2,←hl3_3])
               go_roundg k3
               case measure=>have:=HK1.out;have:=HK2.out;have:=HK3.out;omega
               case rel=>exact ⟨(x3_3),(x5_3),(wrap64 (x6_2+1)),pr1,pr1,H',⟨by have:=HK1.out;have:=HK2.out;have:=HK3.out;omega⟩,⟨by (try simp only [hl3_2]);(try simp only [hl3_3]);(with_reducible repeat (first|apply Kd.R_alloc|apply Kd.R_drewN|apply Kd.R_drew));exact HO_3.out⟩,⟨pb⟩⟩
           · rw [if_neg c16]at H;have c16b0:=decide_eq_false c16;clear c16;have H':=Aside0.mk H;clear H;go_wp2
             (try simp only [←hl3_2,←hl3_3])
             go_roundg k3
             case measure=>have:=HK1.out;have:=HK2.out;have:=HK3.out;omega
             case rel=>exact ⟨(x3_3),(x5_3),(wrap64 (x6_2+1)),pr1,pr1,H',⟨by have:=HK1.out;have:=HK2.out;have:=HK3.out;omega⟩,⟨by (try simp only [hl3_2]);(try simp only [hl3_3]);(with_reducible repeat (first|apply Kd.R_alloc|apply Kd.R_drewN|apply Kd.R_drew));exact HO_3.out⟩,⟨pb⟩⟩
       · rw [if_neg c14]at H;have c14b0:=decide_eq_false c14;clear c14;obtain rfl:=Option.some.inj H;have hcv23:=own_string (P:=Tryz.prog) Tryz.underlying101 Tryz.underlying5 Tryz.underlying9 (Kd.own_of_R HO_3.out);go_wp2
         go_ret
         exact⟨pr2,pb⟩
def linkworkref01_addNat.l0:Nat→List Int→List Int→List Int→Int→Int→Option (List Int)
 | 0,_,_,_,_,_=>none
 | k+1,x0,x1,x5,x6,x7=>if x7<(x5.length:Int)then (if x7<(x0.length:Int)then (if 0≤x7 then(if x7<(x1.length:Int)then (linkworkref01_addNat.l0 k x0 x1 (x5.set (x7:Int).toNat (Int.tmod (wrap64 ((wrap64 (x6+(rd x0 x7)))+(rd x1 x7))) 10000)) (wrap64 (Int.tdiv (wrap64 ((wrap64 (x6+(rd x0 x7)))+(rd x1 x7))) 10000)) (wrap64 (x7+1)))else (linkworkref01_addNat.l0 k x0 x1 (x5.set (x7:Int).toNat (Int.tmod (wrap64 (x6+(rd x0 x7))) 10000)) (wrap64 (Int.tdiv (wrap64 (x6+(rd x0 x7))) 10000)) (wrap64 (x7+1))))else (none))else (if x7<(x1.length:Int)then (if 0≤x7 then(linkworkref01_addNat.l0 k x0 x1 (x5.set (x7:Int).toNat (Int.tmod (wrap64 (x6+(rd x1 x7))) 10000)) (wrap64 (Int.tdiv (wrap64 (x6+(rd x1 x7))) 10000)) (wrap64 (x7+1)))else (none))else (if 0≤x7 then(linkworkref01_addNat.l0 k x0 x1 (x5.set (x7:Int).toNat (Int.tmod x6 10000)) (wrap64 (Int.tdiv x6 10000)) (wrap64 (x7+1)))else (none))))else ((linkworkref01_trim.f k x5).bind fun t156=>(some t156))
def linkworkref01_addNat.f(k:Nat)(l0:List Int)(l1:List Int):Option (List Int):=if 0≤(wrap64 ((mx (l0.length:Int) (l1.length:Int))+1))then (if (wrap64 ((mx (l0.length:Int) (l1.length:Int))+1):Int).toNat≤35184372088832 then(linkworkref01_addNat.l0 k l0 l1 (List.replicate (wrap64 ((mx (l0.length:Int) (l1.length:Int))+1):Int).toNat 0) 0 0)else (none))else (none)
theorem linkworkref01_addNat.calls(k:Nat)(A0:Option Addr)(c0:Nat)(l0:List Int)(A1:Option Addr)(c1:Nat)(l1:List Int)(r:List Int)(w:World)(hr0:Kd.C (Kd.int .i64) w A0 l0.length l0)(hc0:l0.length≤c0)(hr1:Kd.C (Kd.int .i64) w A1 l1.length l1)(hc1:l1.length≤c1)(h:linkworkref01_addNat.f k l0 l1=some r) :
 Calls Tryz.prog 110 #[.slice A0 l0.length c0,.slice A1 l1.length c1] w fun e w'=>∃v0_:Value,e=.returned (v0_)∧Kd.R (Kd.int .i64) 3 w' w.heap.size (fun _=>True) v0_ r∧Below w.heap.size w w':=by
 have HR0:=Aside0.mk hr0
 have HC0:=Aside0.mk hc0
 clear hr0 hc0
 have HR1:=Aside0.mk hr1
 have HC1:=Aside0.mk hc1
 clear hr1 hc1
 have HB:=Aside0.mk (Below.refl w.heap.size w)
 have H:(if 0≤(wrap64 ((mx (l0.length:Int) (l1.length:Int))+1))then (if (wrap64 ((mx (l0.length:Int) (l1.length:Int))+1):Int).toNat≤35184372088832 then(linkworkref01_addNat.l0 k l0 l1 (List.replicate (wrap64 ((mx (l0.length:Int) (l1.length:Int))+1):Int).toNat 0) 0 0)else (none))else (none))=some r:=h
 clear h
 obtain⟨ji3,hji3⟩:∃j_:Int,(mx (l0.length:Int) (l1.length:Int))=j_:=⟨_,rfl⟩
 replace H:(if 0≤(wrap64 ((ji3)+1))then (if (wrap64 ((ji3)+1):Int).toNat≤35184372088832 then(linkworkref01_addNat.l0 k l0 l1 (List.replicate (wrap64 ((ji3)+1):Int).toNat 0) 0 0)else (none))else (none))=some r:=by first|(rw [hji3]at H;exact H)|(simp only [hji3]at H ⊢;exact H)
 (try (have hji3l:0≤ji3:=by (rw [←hji3];unfold mx;(repeat' split) <;> omega)))
 (try (have hji3m:0≤ji3:=by omega))
 have hji3_:(if (l0.length:Int)<(l1.length:Int)then (l1.length:Int)else (l0.length:Int))=ji3:=hji3
 have hji3n:(if l0.length<l1.length then(l1.length:Int)else (l0.length:Int))=ji3:=by rw [←hji3_];simp only [Int.ofNat_lt]
 obtain⟨ji4,hji4⟩:∃j_:Int,(wrap64 ((ji3)+1))=j_:=⟨_,rfl⟩
 replace H:(if 0≤(ji4)then (if (ji4:Int).toNat≤35184372088832 then(linkworkref01_addNat.l0 k l0 l1 (List.replicate (ji4:Int).toNat 0) 0 0)else (none))else (none))=some r:=by first|(rw [hji4]at H;exact H)|(simp only [hji4]at H ⊢;exact H)
 have hji4w:(IntKind.i64.wrap ((ji3)+1))=ji4:=(i64_w _).trans hji4
 replace H:=ifs H
 obtain⟨c5,H⟩:=H
 have c5b0:=eq_true c5
 have c5b1:=decide_eq_true c5
 clear c5
 replace H:=ifs H
 obtain⟨c6,H⟩:=H
 have c6b0:=eq_true c6
 have c6b1:=decide_eq_true c6
 clear c6
 obtain⟨y153,hy153⟩:∃y_:List Int,y_=(List.replicate (ji4:Int).toNat 0):=⟨_,rfl⟩
 replace H:(linkworkref01_addNat.l0 k l0 l1 y153 0 0)=some r:=ry hy153 H
 have Ny153:=Aside0.mk hy153
 clear hy153
 have H':=Aside0.mk H
 clear H
 go_enter Tryz.func110,Tryz.ntmps110
 go_wp2_with (first|((with_reducible refine gate_dst (N:=15) rfl ?_);refine Kd.R_make (Kd.int .i64) _ 3 rfl (N:=15) rfl 58 _ _ rfl ji4 rfl rfl Tryz.underlying58 (.int .i64 0) 8 info3 rfl (by decide) (by omega) 0 (ok:=fun _=>True) (okp:=fun _=>True) rfl (fun _ hk=>hk) trivial (oda) (Nat.le_trans (Nat.mul_le_mul_right _ (oda:ji4.toNat≤35184372088832)) (by omega)) (Below.refl _ _) (Nat.le_refl _) ?_;intro v154 w7 ho8 hb hg_ hnew_;clear hg_ hnew_;(first|rw [←Ny153.out]at ho8|(simp only [Int.reduceToNat]at ho8;rw [←Ny153.out]at ho8));have n0_:=Aside0.mk (Kd.R_lower ho8 (below_size pb));have n1_:=Aside0.mk (below_step pb hb);clear HB;have HO155:=n0_;have HB:=n1_;clear n0_ n1_;clear hb ho8))
 go_loopg [6,7] k (fun kq v6 v7 w'=>∃(x5_1:List Int) (x6_1:Int) (x7_1:Int),v6=.int .i64 x6_1∧v7=.int .i64 x7_1∧Aside0 (linkworkref01_addNat.l0 kq l0 l1 x5_1 x6_1 x7_1=some r)∧Aside0 (kq≤k)∧Aside0 (Kd.R (Kd.int .i64) 3 w' w.heap.size (fun _=>True) v154 x5_1)∧Aside0 (Below w.heap.size w w'))
 case atStart=>exact ⟨(y153),(0),(0),pr1,pr1,H',⟨Nat.le_refl _⟩,⟨rq HO155.out⟩,⟨pb⟩⟩
 case round =>
  clear H';try clear c1
  try clear p2
  try clear c5
  try clear c5b0
  try clear c5b1
  try clear c6
  try clear c6b0
  try clear c6b1
  try clear p6
  obtain⟨x5_1,x6_1,x7_1,rfl,rfl,HA,HK1,HO_5,HB⟩:=hrel;cases gk with
  | zero=>exact absurd HA.out (by simp [linkworkref01_addNat.l0])
  | succ k1 =>
   have H:=HA.out;clear HA;simp only [linkworkref01_addNat.l0]at H;by_cases c9:x7_1<(x5_1.length:Int)
   · rw [if_pos c9]at H;have c9b0:=decide_eq_true c9;clear c9;by_cases c10:x7_1<(l0.length:Int)
     · rw [if_pos c10]at H;have c10b0:=decide_eq_true c10;clear c10;replace H:=ifs H;obtain⟨c11,H⟩:=H;have c11b0:=decide_eq_true c11;clear c11;by_cases c12:x7_1<(l1.length:Int)
       · rw [if_pos c12]at H;have c12b0:=decide_eq_true c12;clear c12;obtain⟨y161,hy161⟩:∃y_:List Int,y_=(x5_1.set (x7_1:Int).toNat (Int.tmod (wrap64 ((wrap64 (x6_1+(rd l0 x7_1)))+(rd l1 x7_1))) 10000)):=⟨_,rfl⟩;replace H:(linkworkref01_addNat.l0 k1 l0 l1 y161 (wrap64 (Int.tdiv (wrap64 ((wrap64 (x6_1+(rd l0 x7_1)))+(rd l1 x7_1))) 10000)) (wrap64 (x7_1+1)))=some r:=ry hy161 H;have Ny161:=Aside0.mk hy161;clear hy161;have H':=Aside0.mk H;clear H;obtain⟨Ao14,co14,eo14⟩:=Kd.R_slice HO_5.out;subst eo14;have p159:0≤(x7_1:Int):=oda;have q159:x7_1<(l0.length:Int):=oda;obtain⟨ad159,e159,hx159_0⟩:=Kd.at_int HR0.out x7_1 p159 q159;cases e159;replace hx159_0:=(HB.out.cell (World.block_lt_of_cell? w _ hx159_0)).trans hx159_0;replace p159:=eq_true p159;replace q159:=eq_true q159;have p160:0≤(x7_1:Int):=oda;have q160:x7_1<(l1.length:Int):=oda;obtain⟨ad160,e160,hx160_0⟩:=Kd.at_int HR1.out x7_1 p160 q160;cases e160;replace hx160_0:=(HB.out.cell (World.block_lt_of_cell? w _ hx160_0)).trans hx160_0;replace p160:=eq_true p160;replace q160:=eq_true q160;have p13:0≤(x7_1:Int):=oda;have q13:(x7_1:Int)<((x5_1.length:Int):Int):=oda;obtain⟨go13,co13,eo13,gb13,gl13,cl13,HG13⟩:=Kd.R_form HO_5.out (by omega);(first|cases eo13|(injection eo13 with ea_ en_ ec_;(first|subst ea_|(injection ea_ with ea_;subst ea_));subst ec_;clear en_))
         have GB13:=Aside0.mk gb13;have GG13:=Aside0.mk HG13;clear gb13 gl13 HG13;obtain⟨hx13_0,hf13_0⟩:=Kd.R_celln 0 HO_5.out (x7_1:Int) p13 q13;replace p13:=eq_true p13;replace q13:=eq_true q13;have HP15:=Kd.R_putg HO_5.out (x7_1:Int) (Int.tmod (wrap64 ((wrap64 (x6_1+(rd l0 x7_1)))+(rd l1 x7_1))) 10000);go_wp2_with (first|((with_reducible refine gate_store (t:=3) (p:=47) rfl ?_);refine store_event (t:=3) (p:=47) (v:=?vo_w16) (w1:=(wr.setCell ⟨go13,(x7_1:Int).toNat,none⟩ (.int .i64 (Int.tmod (wrap64 ((wrap64 (x6_1+(rd l0 x7_1)))+(rd l1 x7_1))) 10000)))) ?hg ?ho ?hn ?hr ?_;(case ho=>rfl);(case hg=>rfl);(case hn=>rfl);(case hr=>first|(go_simp;done)|(go_simp;rfl));intro w16 hw;have hg:wr.grownBy w16 (some go13):=(by rw [hw];exact HP15.2);have hp_:Kd.R (Kd.int .i64) 3 w16 w.heap.size (fun _=>True) (.slice (some ⟨go13,0,none⟩) x5_1.length co14) y161:=(by rw [hw,Ny161.out];exact HP15.1);clear HP15;have n0_:=Aside0.mk (hp_);have n1_:=Aside0.mk ((by rw [hw];exact below_set (HB.out) GB13.out:Below w.heap.size w w16));clear HO_5;clear HB;have HO_5:=n0_;have HB:=n1_;clear n0_ n1_;clear hg hw hp_))
         go_roundg k1
         case measure=>have:=HK1.out;omega
         case rel=>exact ⟨(y161),(wrap64 (Int.tdiv (wrap64 ((wrap64 (x6_1+(rd l0 x7_1)))+(rd l1 x7_1))) 10000)),(wrap64 (x7_1+1)),pr1,pr1,H',⟨by have:=HK1.out;omega⟩,⟨rq HO_5.out⟩,⟨pb⟩⟩
       · rw [if_neg c12]at H;have c12b0:=decide_eq_false c12;clear c12;obtain⟨y162,hy162⟩:∃y_:List Int,y_=(x5_1.set (x7_1:Int).toNat (Int.tmod (wrap64 (x6_1+(rd l0 x7_1))) 10000)):=⟨_,rfl⟩;replace H:(linkworkref01_addNat.l0 k1 l0 l1 y162 (wrap64 (Int.tdiv (wrap64 (x6_1+(rd l0 x7_1))) 10000)) (wrap64 (x7_1+1)))=some r:=ry hy162 H;have Ny162:=Aside0.mk hy162;clear hy162;have H':=Aside0.mk H;clear H;obtain⟨Ao18,co18,eo18⟩:=Kd.R_slice HO_5.out;subst eo18;have p159:0≤(x7_1:Int):=oda;have q159:x7_1<(l0.length:Int):=oda;obtain⟨ad159,e159,hx159_0⟩:=Kd.at_int HR0.out x7_1 p159 q159;cases e159;replace hx159_0:=(HB.out.cell (World.block_lt_of_cell? w _ hx159_0)).trans hx159_0;replace p159:=eq_true p159;replace q159:=eq_true q159;have p17:0≤(x7_1:Int):=oda;have q17:(x7_1:Int)<((x5_1.length:Int):Int):=oda;obtain⟨go17,co17,eo17,gb17,gl17,cl17,HG17⟩:=Kd.R_form HO_5.out (by omega);(first|cases eo17|(injection eo17 with ea_ en_ ec_;(first|subst ea_|(injection ea_ with ea_;subst ea_));subst ec_;clear en_))
         have GB17:=Aside0.mk gb17;have GG17:=Aside0.mk HG17;clear gb17 gl17 HG17;obtain⟨hx17_0,hf17_0⟩:=Kd.R_celln 0 HO_5.out (x7_1:Int) p17 q17;replace p17:=eq_true p17;replace q17:=eq_true q17;have HP19:=Kd.R_putg HO_5.out (x7_1:Int) (Int.tmod (wrap64 (x6_1+(rd l0 x7_1))) 10000);go_wp2_with (first|((with_reducible refine gate_store (t:=3) (p:=47) rfl ?_);refine store_event (t:=3) (p:=47) (v:=?vo_w20) (w1:=(wr.setCell ⟨go17,(x7_1:Int).toNat,none⟩ (.int .i64 (Int.tmod (wrap64 (x6_1+(rd l0 x7_1))) 10000)))) ?hg ?ho ?hn ?hr ?_;(case ho=>rfl);(case hg=>rfl);(case hn=>rfl);(case hr=>first|(go_simp;done)|(go_simp;rfl));intro w20 hw;have hg:wr.grownBy w20 (some go17):=(by rw [hw];exact HP19.2);have hp_:Kd.R (Kd.int .i64) 3 w20 w.heap.size (fun _=>True) (.slice (some ⟨go17,0,none⟩) x5_1.length co18) y162:=(by rw [hw,Ny162.out];exact HP19.1);clear HP19;have n0_:=Aside0.mk (hp_);have n1_:=Aside0.mk ((by rw [hw];exact below_set (HB.out) GB17.out:Below w.heap.size w w20));clear HO_5;clear HB;have HO_5:=n0_;have HB:=n1_;clear n0_ n1_;clear hg hw hp_))
         go_roundg k1
         case measure=>have:=HK1.out;omega
         case rel=>exact ⟨(y162),(wrap64 (Int.tdiv (wrap64 (x6_1+(rd l0 x7_1))) 10000)),(wrap64 (x7_1+1)),pr1,pr1,H',⟨by have:=HK1.out;omega⟩,⟨rq HO_5.out⟩,⟨pb⟩⟩
     · rw [if_neg c10]at H;have c10b0:=decide_eq_false c10;clear c10;by_cases c21:x7_1<(l1.length:Int)
       · rw [if_pos c21]at H;have c21b0:=decide_eq_true c21;clear c21;replace H:=ifs H;obtain⟨c22,H⟩:=H;have c22b0:=decide_eq_true c22;clear c22;obtain⟨y164,hy164⟩:∃y_:List Int,y_=(x5_1.set (x7_1:Int).toNat (Int.tmod (wrap64 (x6_1+(rd l1 x7_1))) 10000)):=⟨_,rfl⟩;replace H:(linkworkref01_addNat.l0 k1 l0 l1 y164 (wrap64 (Int.tdiv (wrap64 (x6_1+(rd l1 x7_1))) 10000)) (wrap64 (x7_1+1)))=some r:=ry hy164 H;have Ny164:=Aside0.mk hy164;clear hy164;have H':=Aside0.mk H;clear H;obtain⟨Ao24,co24,eo24⟩:=Kd.R_slice HO_5.out;subst eo24;have p163:0≤(x7_1:Int):=oda;have q163:x7_1<(l1.length:Int):=oda;obtain⟨ad163,e163,hx163_0⟩:=Kd.at_int HR1.out x7_1 p163 q163;cases e163;replace hx163_0:=(HB.out.cell (World.block_lt_of_cell? w _ hx163_0)).trans hx163_0;replace p163:=eq_true p163;replace q163:=eq_true q163;have p23:0≤(x7_1:Int):=oda;have q23:(x7_1:Int)<((x5_1.length:Int):Int):=oda;obtain⟨go23,co23,eo23,gb23,gl23,cl23,HG23⟩:=Kd.R_form HO_5.out (by omega);(first|cases eo23|(injection eo23 with ea_ en_ ec_;(first|subst ea_|(injection ea_ with ea_;subst ea_));subst ec_;clear en_))
         have GB23:=Aside0.mk gb23;have GG23:=Aside0.mk HG23;clear gb23 gl23 HG23;obtain⟨hx23_0,hf23_0⟩:=Kd.R_celln 0 HO_5.out (x7_1:Int) p23 q23;replace p23:=eq_true p23;replace q23:=eq_true q23;have HP25:=Kd.R_putg HO_5.out (x7_1:Int) (Int.tmod (wrap64 (x6_1+(rd l1 x7_1))) 10000);go_wp2_with (first|((with_reducible refine gate_store (t:=3) (p:=47) rfl ?_);refine store_event (t:=3) (p:=47) (v:=?vo_w26) (w1:=(wr.setCell ⟨go23,(x7_1:Int).toNat,none⟩ (.int .i64 (Int.tmod (wrap64 (x6_1+(rd l1 x7_1))) 10000)))) ?hg ?ho ?hn ?hr ?_;(case ho=>rfl);(case hg=>rfl);(case hn=>rfl);(case hr=>first|(go_simp;done)|(go_simp;rfl));intro w26 hw;have hg:wr.grownBy w26 (some go23):=(by rw [hw];exact HP25.2);have hp_:Kd.R (Kd.int .i64) 3 w26 w.heap.size (fun _=>True) (.slice (some ⟨go23,0,none⟩) x5_1.length co24) y164:=(by rw [hw,Ny164.out];exact HP25.1);clear HP25;have n0_:=Aside0.mk (hp_);have n1_:=Aside0.mk ((by rw [hw];exact below_set (HB.out) GB23.out:Below w.heap.size w w26));clear HO_5;clear HB;have HO_5:=n0_;have HB:=n1_;clear n0_ n1_;clear hg hw hp_))
         go_roundg k1
         case measure=>have:=HK1.out;omega
         case rel=>exact ⟨(y164),(wrap64 (Int.tdiv (wrap64 (x6_1+(rd l1 x7_1))) 10000)),(wrap64 (x7_1+1)),pr1,pr1,H',⟨by have:=HK1.out;omega⟩,⟨rq HO_5.out⟩,⟨pb⟩⟩
       · rw [if_neg c21]at H;have c21b0:=decide_eq_false c21;clear c21;replace H:=ifs H;obtain⟨c27,H⟩:=H;have c27b0:=decide_eq_true c27;clear c27;obtain⟨y165,hy165⟩:∃y_:List Int,y_=(x5_1.set (x7_1:Int).toNat (Int.tmod x6_1 10000)):=⟨_,rfl⟩;replace H:(linkworkref01_addNat.l0 k1 l0 l1 y165 (wrap64 (Int.tdiv x6_1 10000)) (wrap64 (x7_1+1)))=some r:=ry hy165 H;have Ny165:=Aside0.mk hy165;clear hy165;have H':=Aside0.mk H;clear H;obtain⟨Ao29,co29,eo29⟩:=Kd.R_slice HO_5.out;subst eo29;have p28:0≤(x7_1:Int):=oda;have q28:(x7_1:Int)<((x5_1.length:Int):Int):=oda;obtain⟨go28,co28,eo28,gb28,gl28,cl28,HG28⟩:=Kd.R_form HO_5.out (by omega);(first|cases eo28|(injection eo28 with ea_ en_ ec_;(first|subst ea_|(injection ea_ with ea_;subst ea_));subst ec_;clear en_))
         have GB28:=Aside0.mk gb28;have GG28:=Aside0.mk HG28;clear gb28 gl28 HG28;obtain⟨hx28_0,hf28_0⟩:=Kd.R_celln 0 HO_5.out (x7_1:Int) p28 q28;replace p28:=eq_true p28;replace q28:=eq_true q28;have HP30:=Kd.R_putg HO_5.out (x7_1:Int) (Int.tmod x6_1 10000);go_wp2_with (first|((with_reducible refine gate_store (t:=3) (p:=47) rfl ?_);refine store_event (t:=3) (p:=47) (v:=?vo_w31) (w1:=(wr.setCell ⟨go28,(x7_1:Int).toNat,none⟩ (.int .i64 (Int.tmod x6_1 10000)))) ?hg ?ho ?hn ?hr ?_;(case ho=>rfl);(case hg=>rfl);(case hn=>rfl);(case hr=>first|(go_simp;done)|(go_simp;rfl));intro w31 hw;have hg:wr.grownBy w31 (some go28):=(by rw [hw];exact HP30.2);have hp_:Kd.R (Kd.int .i64) 3 w31 w.heap.size (fun _=>True) (.slice (some ⟨go28,0,none⟩) x5_1.length co29) y165:=(by rw [hw,Ny165.out];exact HP30.1);clear HP30;have n0_:=Aside0.mk (hp_);have n1_:=Aside0.mk ((by rw [hw];exact below_set (HB.out) GB28.out:Below w.heap.size w w31));clear HO_5;clear HB;have HO_5:=n0_;have HB:=n1_;clear n0_ n1_;clear hg hw hp_))
         go_roundg k1
         case measure=>have:=HK1.out;omega
         case rel=>exact ⟨(y165),(wrap64 (Int.tdiv x6_1 10000)),(wrap64 (x7_1+1)),pr1,pr1,H',⟨by have:=HK1.out;omega⟩,⟨rq HO_5.out⟩,⟨pb⟩⟩
   · rw [if_neg c9]at H;have c9b0:=decide_eq_false c9;clear c9;replace H:=Option.bind_eq_some_iff.mp H;obtain⟨t156,A320,H⟩:=H;replace H:(some t156)=some r:=H;have A32:=Aside0.mk A320;clear A320;obtain rfl:=Option.some.inj H;obtain⟨Ao33,co33,eo33⟩:=Kd.R_slice HO_5.out;subst eo33;go_wp2_with (first|((with_reducible refine gate_callee (f:=114) rfl ?_);refine goesL_ (some 51) rfl rfl Tryz.func114 (by kernel_rfl) rfl #[.slice Ao33 x5_1.length co33] rfl (by(try simp only [List.map_toArray,List.map_cons,List.map_nil]);first|done|rfl|(simp only [List.length_drop,List.length_take];rfl)) ?_;(with_reducible refine(linkworkref01_trim.calls k1 (fun k_=>some k_=(.slice Ao33 x5_1.length co33:Value).ownBlock) (.slice Ao33 x5_1.length co33) x5_1 t156 w _ ?side1 ?side2 A32.out).mono ?_);(case side1=>exact pb);(case side2=>exact Kd.R_tight rfl HO_5.out);rintro e w34 ⟨v157,rfl,ho0,hb,hkp⟩;refine⟨_,rfl,?_⟩;have n0_:=Aside0.mk (Kd.R_mono (ok':=fun k_=>True) ho0 (fun k_ hk_=>trivial));have n1_:=Aside0.mk (hb);clear HB;clear HO_5;have HO158:=n0_;have HB:=n1_;clear n0_ n1_;(try clear hb);(try clear hkp);(try clear ho0)))
     go_ret
     exact⟨_,by first|rfl|(simp [errW_none,errW_some] <;> rfl)|(simp only [←hji3,←hji4];first|rfl|(simp [errW_none,errW_some] <;> rfl))|(simp [*,errW_none,errW_some] <;> rfl),rq HO158.out,pb⟩
end Go.Proofs.YtpdghgfbfmaplaaGreatDoor.PRef
end
