/- Lemmas for RatLists. -/
import Derived.Test.YtpdghgfbfmaplaaGreatDoorQC
set_option maxRecDepth 100000
set_option maxHeartbeats 8000000
section
namespace Go.Proofs.YtpdghgfbfmaplaaGreatDoor.PWhole
open Go.RowKit Go.Proofs.YtpdghgfbfmaplaaGreatDoorW.PrintWords Go.Proofs.YtpdghgfbfmaplaaGreatDoorW.PrintLast Go.Proofs.YtpdghgfbfmaplaaGreatDoorW.PrintMore
attribute [local go_sem] max2_int min2_int max_two min_two max_three min_three max_four min_four   -- for this text's walks alone
set_option linter.unusedVariables false
set_option linter.unusedSimpArgs false
def whole_less.l0:Nat→List Int→List Int→Int→Int→Int→Option (List Int)
 | 0,_,_,_,_,_=>none
 | k+1,x1,x5,x6,x12,x13=>if x13<x12 then(if 0≤x13 then(if x13<(x5.length:Int)then (if x13<(x1.length:Int)then (if (wrap64 ((wrap64 ((wrap64 (rd x5 x13))-x6))-(wrap64 (rd x1 x13))))<0 then(whole_less.l0 k x1 (x5.set (x13:Int).toNat ((wrap64 ((wrap64 ((wrap64 ((wrap64 (rd x5 x13))-x6))-(wrap64 (rd x1 x13))))+1000000000))%4294967296)) 1 x12 (wrap64 (x13+1)))else (whole_less.l0 k x1 (x5.set (x13:Int).toNat ((wrap64 ((wrap64 ((wrap64 (rd x5 x13))-x6))-(wrap64 (rd x1 x13))))%4294967296)) 0 x12 (wrap64 (x13+1))))else (if (wrap64 ((wrap64 (rd x5 x13))-x6))<0 then(whole_less.l0 k x1 (x5.set (x13:Int).toNat ((wrap64 ((wrap64 ((wrap64 (rd x5 x13))-x6))+1000000000))%4294967296)) 1 x12 (wrap64 (x13+1)))else (whole_less.l0 k x1 (x5.set (x13:Int).toNat ((wrap64 ((wrap64 (rd x5 x13))-x6))%4294967296)) 0 x12 (wrap64 (x13+1)))))else (none))else (none))else (some x5)
def whole_less.f(k:Nat)(l0:List Int)(l1:List Int):Option (List Int):=(slices_Clone_uint32_uint32.f l0).bind fun t139=>(whole_less.l0 k l1 t139 0 (t139.length:Int) 0)
theorem whole_less.calls(k:Nat)(A0:Option Addr)(c0:Nat)(l0:List Int)(A1:Option Addr)(c1:Nat)(l1:List Int)(r:List Int)(w:World)(hr0:Kd.C (Kd.int .u32) w A0 l0.length l0)(hc0:l0.length≤c0)(hr1:Kd.C (Kd.int .u32) w A1 l1.length l1)(hc1:l1.length≤c1)(h:whole_less.f k l0 l1=some r) :
 Calls Tryz.prog 129 #[.slice A0 l0.length c0,.slice A1 l1.length c1] w fun e w'=>∃v0_:Value,e=.returned (v0_)∧Kd.R (Kd.int .u32) 95 w' w.heap.size (fun _=>True) v0_ r∧Below w.heap.size w w':=by
 have HR0:=Aside0.mk hr0
 have HC0:=Aside0.mk hc0
 clear hr0 hc0
 have HR1:=Aside0.mk hr1
 have HC1:=Aside0.mk hc1
 clear hr1 hc1
 have HB:=Aside0.mk (Below.refl w.heap.size w)
 have H:((slices_Clone_uint32_uint32.f l0).bind fun t139=>(whole_less.l0 k l1 t139 0 (t139.length:Int) 0))=some r:=h
 clear h
 replace H:=Option.bind_eq_some_iff.mp H
 obtain⟨t139,A30,H⟩:=H
 replace H:(whole_less.l0 k l1 t139 0 (t139.length:Int) 0)=some r:=H
 have A3:=Aside0.mk A30
 clear A30
 have H':=Aside0.mk H
 clear H
 go_enter Tryz.func129,Tryz.ntmps129
 go_wp2_with (first|((with_reducible refine gate_callee (f:=134) rfl ?_);refine goesL_ (some 10) rfl rfl Tryz.func134 (by kernel_rfl) rfl #[.slice A0 l0.length c0] rfl (by(try simp only [List.map_toArray,List.map_cons,List.map_nil]);first|done|rfl|(simp only [List.length_drop,List.length_take];rfl)) ?_;(with_reducible refine(slices_Clone_uint32_uint32.calls _ _ l0 t139 _ ?side1 ?side2 A3.out).mono ?_);(case side1=>repeat (first|exact HR0.out|(with_reducible refine Kd.C_alloc ?_ _)|(with_reducible refine Kd.C_drewN ?_ _)|(with_reducible refine Kd.C_drew ?_)));(case side2=>exact HC0.out);rintro e w4 ⟨v140,rfl,ho0,hb⟩;refine⟨_,rfl,?_⟩;have n0_:=Aside0.mk (Kd.R_lower ho0 (below_size pb));have n1_:=Aside0.mk (below_step pb hb);clear HB;have HO141:=n0_;have HB:=n1_;clear n0_ n1_;(try clear hb);(try clear hb2);(try clear hk);(try clear hi);(try clear ho0);obtain⟨Ao5,co5,eo5⟩:=Kd.R_slice HO141.out;subst eo5))
 go_loopg [6,13] k (fun kq v6 v13 w'=>∃(x5_1:List Int) (x6_1:Int) (x13_1:Int),v6=.int .i64 x6_1∧v13=.int .i64 x13_1∧Aside0 (whole_less.l0 kq l1 x5_1 x6_1 (t139.length:Int) x13_1=some r)∧Aside0 (kq≤k)∧Aside0 (Kd.R (Kd.int .u32) 95 w' w.heap.size (fun _=>True) (.slice Ao5 t139.length co5) x5_1)∧Aside0 (Below w.heap.size w w'))
 case atStart=>exact ⟨(t139),(0),(0),pr1,pr1,H',⟨Nat.le_refl _⟩,⟨rq HO141.out⟩,⟨pb⟩⟩
 case round =>
  clear H';try clear c1
  try clear p2
  obtain⟨x5_1,x6_1,x13_1,rfl,rfl,HA,HK1,HO_5,HB⟩:=hrel;have hl5_1:=(Kd.R_reads' HO_5.out).1;rw [hl5_1]at HO_5;(try simp only [hl5_1])
  cases gk with
  | zero=>exact absurd HA.out (by simp [whole_less.l0])
  | succ k1 =>
   have H:=HA.out;clear HA;simp only [whole_less.l0]at H;by_cases c6:x13_1<(t139.length:Int)
   · rw [if_pos c6]at H;have c6b0:=decide_eq_true c6;clear c6;replace H:=ifs H;obtain⟨c7,H⟩:=H;have c7b0:=decide_eq_true c7;clear c7;replace H:=ifs H;obtain⟨c8,H⟩:=H;have c8b0:=decide_eq_true c8;clear c8;by_cases c9:x13_1<(l1.length:Int)
     · rw [if_pos c9]at H;have c9b0:=decide_eq_true c9;clear c9;by_cases c10:(wrap64 ((wrap64 ((wrap64 (rd x5_1 x13_1))-x6_1))-(wrap64 (rd l1 x13_1))))<0
       · rw [if_pos c10]at H;have c10b0:=decide_eq_true c10;clear c10;obtain⟨y144,hy144⟩:∃y_:List Int,y_=(x5_1.set (x13_1:Int).toNat ((wrap64 ((wrap64 ((wrap64 ((wrap64 (rd x5_1 x13_1))-x6_1))-(wrap64 (rd l1 x13_1))))+1000000000))%4294967296)):=⟨_,rfl⟩;replace H:(whole_less.l0 k1 l1 y144 1 (t139.length:Int) (wrap64 (x13_1+1)))=some r:=ry hy144 H;have Ny144:=Aside0.mk hy144;clear hy144;have H':=Aside0.mk H;clear H;have p142:0≤(x13_1:Int):=oda;have q142:x13_1<(x5_1.length:Int):=oda;obtain⟨ad142,e142,hx142_0⟩:=Kd.at_int (Kd.R_reads' HO_5.out).2.2 x13_1 p142 q142;cases e142;replace p142:=eq_true p142;replace q142:=eq_true q142;have p143:0≤(x13_1:Int):=oda;have q143:x13_1<(l1.length:Int):=oda;obtain⟨ad143,e143,hx143_0⟩:=Kd.at_int HR1.out x13_1 p143 q143;cases e143;replace hx143_0:=(HB.out.cell (World.block_lt_of_cell? w _ hx143_0)).trans hx143_0;replace p143:=eq_true p143;replace q143:=eq_true q143;have p11:0≤(x13_1:Int):=oda;have q11:(x13_1:Int)<((x5_1.length:Int):Int):=oda;obtain⟨go11,co11,eo11,gb11,gl11,cl11,HG11⟩:=Kd.R_form HO_5.out (by omega);(first|cases eo11|(injection eo11 with ea_ en_ ec_;(first|subst ea_|(injection ea_ with ea_;subst ea_));subst ec_;clear en_))
         have GB11:=Aside0.mk gb11;have GG11:=Aside0.mk HG11;clear gb11 gl11 HG11;(first|simp only [add_plain]at hx142_0|skip)
         obtain⟨hx11_0,hf11_0⟩:=Kd.R_celln 0 HO_5.out (x13_1:Int) p11 q11;replace p11:=eq_true p11;replace q11:=eq_true q11;have HP12:=Kd.R_putg HO_5.out (x13_1:Int) ((wrap64 ((wrap64 ((wrap64 ((wrap64 (rd x5_1 x13_1))-x6_1))-(wrap64 (rd l1 x13_1))))+1000000000))%4294967296);go_wp2_with (first|((with_reducible refine gate_store (t:=95) (p:=42) rfl ?_);refine store_event (t:=95) (p:=42) (v:=?vo_w13) (w1:=(wr.setCell ⟨go11,(x13_1:Int).toNat,none⟩ (.int .u32 ((wrap64 ((wrap64 ((wrap64 ((wrap64 (rd x5_1 x13_1))-x6_1))-(wrap64 (rd l1 x13_1))))+1000000000))%4294967296)))) ?hg ?ho ?hn ?hr ?_;(case ho=>rfl);(case hg=>rfl);(case hn=>rfl);(case hr=>first|(go_simp;done)|(go_simp;rfl));intro w13 hw;have hg:wr.grownBy w13 (some go11):=(by rw [hw];exact HP12.2);have hp_:Kd.R (Kd.int .u32) 95 w13 w.heap.size (fun _=>True) (.slice (some ⟨go11,0,none⟩) x5_1.length co5) y144:=(by rw [hw,Ny144.out];exact HP12.1);clear HP12;have n0_:=Aside0.mk (hp_);have n1_:=Aside0.mk ((by rw [hw];exact below_set (HB.out) GB11.out:Below w.heap.size w w13));clear HO_5;clear HB;have HO_5:=n0_;have HB:=n1_;clear n0_ n1_;clear hg hw hp_))
         (try simp only [←hl5_1])
         go_roundg k1
         case measure=>have:=HK1.out;omega
         case rel=>exact ⟨(y144),(1),(wrap64 (x13_1+1)),pr1,pr1,H',⟨by have:=HK1.out;omega⟩,⟨by (try simp only [hl5_1]);(with_reducible repeat (first|apply Kd.R_alloc|apply Kd.R_drewN|apply Kd.R_drew));exact HO_5.out⟩,⟨pb⟩⟩
       · rw [if_neg c10]at H;have c10b0:=decide_eq_false c10;clear c10;obtain⟨y145,hy145⟩:∃y_:List Int,y_=(x5_1.set (x13_1:Int).toNat ((wrap64 ((wrap64 ((wrap64 (rd x5_1 x13_1))-x6_1))-(wrap64 (rd l1 x13_1))))%4294967296)):=⟨_,rfl⟩;replace H:(whole_less.l0 k1 l1 y145 0 (t139.length:Int) (wrap64 (x13_1+1)))=some r:=ry hy145 H;have Ny145:=Aside0.mk hy145;clear hy145;have H':=Aside0.mk H;clear H;have p142:0≤(x13_1:Int):=oda;have q142:x13_1<(x5_1.length:Int):=oda;obtain⟨ad142,e142,hx142_0⟩:=Kd.at_int (Kd.R_reads' HO_5.out).2.2 x13_1 p142 q142;cases e142;replace p142:=eq_true p142;replace q142:=eq_true q142;have p143:0≤(x13_1:Int):=oda;have q143:x13_1<(l1.length:Int):=oda;obtain⟨ad143,e143,hx143_0⟩:=Kd.at_int HR1.out x13_1 p143 q143;cases e143;replace hx143_0:=(HB.out.cell (World.block_lt_of_cell? w _ hx143_0)).trans hx143_0;replace p143:=eq_true p143;replace q143:=eq_true q143;have p14:0≤(x13_1:Int):=oda;have q14:(x13_1:Int)<((x5_1.length:Int):Int):=oda;obtain⟨go14,co14,eo14,gb14,gl14,cl14,HG14⟩:=Kd.R_form HO_5.out (by omega);(first|cases eo14|(injection eo14 with ea_ en_ ec_;(first|subst ea_|(injection ea_ with ea_;subst ea_));subst ec_;clear en_))
         have GB14:=Aside0.mk gb14;have GG14:=Aside0.mk HG14;clear gb14 gl14 HG14;(first|simp only [add_plain]at hx142_0|skip)
         obtain⟨hx14_0,hf14_0⟩:=Kd.R_celln 0 HO_5.out (x13_1:Int) p14 q14;replace p14:=eq_true p14;replace q14:=eq_true q14;have HP15:=Kd.R_putg HO_5.out (x13_1:Int) ((wrap64 ((wrap64 ((wrap64 (rd x5_1 x13_1))-x6_1))-(wrap64 (rd l1 x13_1))))%4294967296);go_wp2_with (first|((with_reducible refine gate_store (t:=95) (p:=42) rfl ?_);refine store_event (t:=95) (p:=42) (v:=?vo_w16) (w1:=(wr.setCell ⟨go14,(x13_1:Int).toNat,none⟩ (.int .u32 ((wrap64 ((wrap64 ((wrap64 (rd x5_1 x13_1))-x6_1))-(wrap64 (rd l1 x13_1))))%4294967296)))) ?hg ?ho ?hn ?hr ?_;(case ho=>rfl);(case hg=>rfl);(case hn=>rfl);(case hr=>first|(go_simp;done)|(go_simp;rfl));intro w16 hw;have hg:wr.grownBy w16 (some go14):=(by rw [hw];exact HP15.2);have hp_:Kd.R (Kd.int .u32) 95 w16 w.heap.size (fun _=>True) (.slice (some ⟨go14,0,none⟩) x5_1.length co5) y145:=(by rw [hw,Ny145.out];exact HP15.1);clear HP15;have n0_:=Aside0.mk (hp_);have n1_:=Aside0.mk ((by rw [hw];exact below_set (HB.out) GB14.out:Below w.heap.size w w16));clear HO_5;clear HB;have HO_5:=n0_;have HB:=n1_;clear n0_ n1_;clear hg hw hp_))
         (try simp only [←hl5_1])
         go_roundg k1
         case measure=>have:=HK1.out;omega
         case rel=>exact ⟨(y145),(0),(wrap64 (x13_1+1)),pr1,pr1,H',⟨by have:=HK1.out;omega⟩,⟨by (try simp only [hl5_1]);(with_reducible repeat (first|apply Kd.R_alloc|apply Kd.R_drewN|apply Kd.R_drew));exact HO_5.out⟩,⟨pb⟩⟩
     · rw [if_neg c9]at H;have c9b0:=decide_eq_false c9;clear c9;by_cases c17:(wrap64 ((wrap64 (rd x5_1 x13_1))-x6_1))<0
       · rw [if_pos c17]at H;have c17b0:=decide_eq_true c17;clear c17;obtain⟨y146,hy146⟩:∃y_:List Int,y_=(x5_1.set (x13_1:Int).toNat ((wrap64 ((wrap64 ((wrap64 (rd x5_1 x13_1))-x6_1))+1000000000))%4294967296)):=⟨_,rfl⟩;replace H:(whole_less.l0 k1 l1 y146 1 (t139.length:Int) (wrap64 (x13_1+1)))=some r:=ry hy146 H;have Ny146:=Aside0.mk hy146;clear hy146;have H':=Aside0.mk H;clear H;have p142:0≤(x13_1:Int):=oda;have q142:x13_1<(x5_1.length:Int):=oda;obtain⟨ad142,e142,hx142_0⟩:=Kd.at_int (Kd.R_reads' HO_5.out).2.2 x13_1 p142 q142;cases e142;replace p142:=eq_true p142;replace q142:=eq_true q142;have p18:0≤(x13_1:Int):=oda;have q18:(x13_1:Int)<((x5_1.length:Int):Int):=oda;obtain⟨go18,co18,eo18,gb18,gl18,cl18,HG18⟩:=Kd.R_form HO_5.out (by omega);(first|cases eo18|(injection eo18 with ea_ en_ ec_;(first|subst ea_|(injection ea_ with ea_;subst ea_));subst ec_;clear en_))
         have GB18:=Aside0.mk gb18;have GG18:=Aside0.mk HG18;clear gb18 gl18 HG18;(first|simp only [add_plain]at hx142_0|skip)
         obtain⟨hx18_0,hf18_0⟩:=Kd.R_celln 0 HO_5.out (x13_1:Int) p18 q18;replace p18:=eq_true p18;replace q18:=eq_true q18;have HP19:=Kd.R_putg HO_5.out (x13_1:Int) ((wrap64 ((wrap64 ((wrap64 (rd x5_1 x13_1))-x6_1))+1000000000))%4294967296);go_wp2_with (first|((with_reducible refine gate_store (t:=95) (p:=42) rfl ?_);refine store_event (t:=95) (p:=42) (v:=?vo_w20) (w1:=(wr.setCell ⟨go18,(x13_1:Int).toNat,none⟩ (.int .u32 ((wrap64 ((wrap64 ((wrap64 (rd x5_1 x13_1))-x6_1))+1000000000))%4294967296)))) ?hg ?ho ?hn ?hr ?_;(case ho=>rfl);(case hg=>rfl);(case hn=>rfl);(case hr=>first|(go_simp;done)|(go_simp;rfl));intro w20 hw;have hg:wr.grownBy w20 (some go18):=(by rw [hw];exact HP19.2);have hp_:Kd.R (Kd.int .u32) 95 w20 w.heap.size (fun _=>True) (.slice (some ⟨go18,0,none⟩) x5_1.length co5) y146:=(by rw [hw,Ny146.out];exact HP19.1);clear HP19;have n0_:=Aside0.mk (hp_);have n1_:=Aside0.mk ((by rw [hw];exact below_set (HB.out) GB18.out:Below w.heap.size w w20));clear HO_5;clear HB;have HO_5:=n0_;have HB:=n1_;clear n0_ n1_;clear hg hw hp_))
         (try simp only [←hl5_1])
         go_roundg k1
         case measure=>have:=HK1.out;omega
         case rel=>exact ⟨(y146),(1),(wrap64 (x13_1+1)),pr1,pr1,H',⟨by have:=HK1.out;omega⟩,⟨by (try simp only [hl5_1]);(with_reducible repeat (first|apply Kd.R_alloc|apply Kd.R_drewN|apply Kd.R_drew));exact HO_5.out⟩,⟨pb⟩⟩
       · rw [if_neg c17]at H;have c17b0:=decide_eq_false c17;clear c17;obtain⟨y147,hy147⟩:∃y_:List Int,y_=(x5_1.set (x13_1:Int).toNat ((wrap64 ((wrap64 (rd x5_1 x13_1))-x6_1))%4294967296)):=⟨_,rfl⟩;replace H:(whole_less.l0 k1 l1 y147 0 (t139.length:Int) (wrap64 (x13_1+1)))=some r:=ry hy147 H;have Ny147:=Aside0.mk hy147;clear hy147;have H':=Aside0.mk H;clear H;have p142:0≤(x13_1:Int):=oda;have q142:x13_1<(x5_1.length:Int):=oda;obtain⟨ad142,e142,hx142_0⟩:=Kd.at_int (Kd.R_reads' HO_5.out).2.2 x13_1 p142 q142;cases e142;replace p142:=eq_true p142;replace q142:=eq_true q142;have p21:0≤(x13_1:Int):=oda;have q21:(x13_1:Int)<((x5_1.length:Int):Int):=oda;obtain⟨go21,co21,eo21,gb21,gl21,cl21,HG21⟩:=Kd.R_form HO_5.out (by omega);(first|cases eo21|(injection eo21 with ea_ en_ ec_;(first|subst ea_|(injection ea_ with ea_;subst ea_));subst ec_;clear en_))
         have GB21:=Aside0.mk gb21;have GG21:=Aside0.mk HG21;clear gb21 gl21 HG21;(first|simp only [add_plain]at hx142_0|skip)
         obtain⟨hx21_0,hf21_0⟩:=Kd.R_celln 0 HO_5.out (x13_1:Int) p21 q21;replace p21:=eq_true p21;replace q21:=eq_true q21;have HP22:=Kd.R_putg HO_5.out (x13_1:Int) ((wrap64 ((wrap64 (rd x5_1 x13_1))-x6_1))%4294967296);go_wp2_with (first|((with_reducible refine gate_store (t:=95) (p:=42) rfl ?_);refine store_event (t:=95) (p:=42) (v:=?vo_w23) (w1:=(wr.setCell ⟨go21,(x13_1:Int).toNat,none⟩ (.int .u32 ((wrap64 ((wrap64 (rd x5_1 x13_1))-x6_1))%4294967296)))) ?hg ?ho ?hn ?hr ?_;(case ho=>rfl);(case hg=>rfl);(case hn=>rfl);(case hr=>first|(go_simp;done)|(go_simp;rfl));intro w23 hw;have hg:wr.grownBy w23 (some go21):=(by rw [hw];exact HP22.2);have hp_:Kd.R (Kd.int .u32) 95 w23 w.heap.size (fun _=>True) (.slice (some ⟨go21,0,none⟩) x5_1.length co5) y147:=(by rw [hw,Ny147.out];exact HP22.1);clear HP22;have n0_:=Aside0.mk (hp_);have n1_:=Aside0.mk ((by rw [hw];exact below_set (HB.out) GB21.out:Below w.heap.size w w23));clear HO_5;clear HB;have HO_5:=n0_;have HB:=n1_;clear n0_ n1_;clear hg hw hp_))
         (try simp only [←hl5_1])
         go_roundg k1
         case measure=>have:=HK1.out;omega
         case rel=>exact ⟨(y147),(0),(wrap64 (x13_1+1)),pr1,pr1,H',⟨by have:=HK1.out;omega⟩,⟨by (try simp only [hl5_1]);(with_reducible repeat (first|apply Kd.R_alloc|apply Kd.R_drewN|apply Kd.R_drew));exact HO_5.out⟩,⟨pb⟩⟩
   · rw [if_neg c6]at H;have c6b0:=decide_eq_false c6;clear c6;obtain rfl:=Option.some.inj H;(try simp only [hl5_1]at c6b0)
     go_wp2
     go_ret
     exact⟨_,pr2,rq HO_5.out,pb⟩
def whole_small.l0:Nat→List Int→Int→List Int→Int→Int→Option (List Int×Int)
 | 0,_,_,_,_,_=>none
 | k+1,x0,x1,x6,x7,x8=>if x8≥0 then(if 0≤x8 then(if x8<(x0.length:Int)then (if (IntKind.u64.wrap (x1))=0 then(none)else (if x8<(x6.length:Int)then (whole_small.l0 k x0 x1 (x6.set (x8:Int).toNat ((IntKind.u64.wrap (Int.tdiv (IntKind.u64.wrap ((IntKind.u64.wrap (x7*1000000000))+(IntKind.u64.wrap (rd x0 x8)))) (IntKind.u64.wrap (x1))))%4294967296)) (Int.tmod (IntKind.u64.wrap ((IntKind.u64.wrap (x7*1000000000))+(IntKind.u64.wrap (rd x0 x8)))) (IntKind.u64.wrap (x1))) (wrap64 (x8-1)))else (none)))else (none))else (none))else (some (x6,(x7)%4294967296))
def whole_small.f(k:Nat)(l0:List Int)(a1:Int):Option (List Int×Int):=if 0≤(l0.length:Int)then (if ((l0.length:Int):Int).toNat≤70368744177664 then(whole_small.l0 k l0 a1 (List.replicate ((l0.length:Int):Int).toNat 0) 0 (wrap64 ((l0.length:Int)-1)))else (none))else (none)
theorem whole_small.calls(k:Nat)(A0:Option Addr)(c0:Nat)(l0:List Int)(a1:Int)(r1:List Int)(r2:Int)(w:World)(hr0:Kd.C (Kd.int .u32) w A0 l0.length l0)(hc0:l0.length≤c0)(h:whole_small.f k l0 a1=some (r1,r2)) :
 Calls Tryz.prog 117 #[.slice A0 l0.length c0,.int .u32 a1] w fun e w'=>∃v0_:Value,e=.returned (.tuple #[v0_,.int .u32 r2])∧Kd.R (Kd.int .u32) 95 w' w.heap.size (fun _=>True) v0_ r1∧Below w.heap.size w w':=by
 have HR0:=Aside0.mk hr0
 have HC0:=Aside0.mk hc0
 clear hr0 hc0
 have HB:=Aside0.mk (Below.refl w.heap.size w)
 have H:(if 0≤(l0.length:Int)then (if ((l0.length:Int):Int).toNat≤70368744177664 then(whole_small.l0 k l0 a1 (List.replicate ((l0.length:Int):Int).toNat 0) 0 (wrap64 ((l0.length:Int)-1)))else (none))else (none))=some (r1,r2):=h
 clear h
 replace H:=ifs H
 obtain⟨c3,H⟩:=H
 have c3b0:=eq_true c3
 have c3b1:=decide_eq_true c3
 clear c3
 replace H:=ifs H
 obtain⟨c4,H⟩:=H
 have c4b0:=eq_true c4
 have c4b1:=decide_eq_true c4
 clear c4
 obtain⟨y148,hy148⟩:∃y_:List Int,y_=(List.replicate ((l0.length:Int):Int).toNat 0):=⟨_,rfl⟩
 replace H:(whole_small.l0 k l0 a1 y148 0 (wrap64 ((l0.length:Int)-1)))=some (r1,r2):=ry hy148 H
 have Ny148:=Aside0.mk hy148
 clear hy148
 have H':=Aside0.mk H
 clear H
 go_enter Tryz.func117,Tryz.ntmps117
 go_wp2_with (first|((with_reducible refine gate_dst (N:=12) rfl ?_);refine Kd.R_make (Kd.int .u32) _ 95 rfl (N:=12) rfl 48 _ _ rfl (l0.length:Int) rfl rfl Tryz.underlying48 (.int .u32 0) 4 info70 rfl (by decide) (by omega) 0 (ok:=fun _=>True) (okp:=fun _=>True) rfl (fun _ hk=>hk) trivial (oda) (Nat.le_trans (Nat.mul_le_mul_right _ (oda:(l0.length:Int).toNat≤70368744177664)) (by omega)) (Below.refl _ _) (Nat.le_refl _) ?_;intro v149 w5 ho6 hb hg_ hnew_;clear hg_ hnew_;(first|rw [←Ny148.out]at ho6|(simp only [Int.reduceToNat]at ho6;rw [←Ny148.out]at ho6));have n0_:=Aside0.mk (Kd.R_lower ho6 (below_size pb));have n1_:=Aside0.mk (below_step pb hb);clear HB;have HO150:=n0_;have HB:=n1_;clear n0_ n1_;clear hb ho6))
 go_loopg [7,8] k (fun kq v7 v8 w'=>∃(x6_1:List Int) (x7_1:Int) (x8_1:Int),v7=.int .u64 x7_1∧v8=.int .i64 x8_1∧Aside0 (whole_small.l0 kq l0 a1 x6_1 x7_1 x8_1=some (r1,r2))∧Aside0 (kq≤k)∧Aside0 (Kd.R (Kd.int .u32) 95 w' w.heap.size (fun _=>True) v149 x6_1)∧Aside0 (Below w.heap.size w w'))
 case atStart=>exact ⟨(y148),(0),(wrap64 ((l0.length:Int)-1)),pr1,pr1,H',⟨Nat.le_refl _⟩,⟨rq HO150.out⟩,⟨pb⟩⟩
 case round =>
  clear H';try clear p2
  try clear c3
  try clear c3b0
  try clear c3b1
  try clear c4
  try clear c4b0
  try clear c4b1
  try clear p6
  obtain⟨x6_1,x7_1,x8_1,rfl,rfl,HA,HK1,HO_6,HB⟩:=hrel;cases gk with
  | zero=>exact absurd HA.out (by simp [whole_small.l0])
  | succ k1 =>
   have H:=HA.out;clear HA;simp only [whole_small.l0]at H;by_cases c7:x8_1≥0
   · rw [if_pos c7]at H;have c7b0:=decide_eq_true c7;clear c7;replace H:=ifs H;obtain⟨c8,H⟩:=H;have c8b0:=decide_eq_true c8;clear c8;replace H:=ifs H;obtain⟨c9,H⟩:=H;have c9b0:=decide_eq_true c9;clear c9;by_cases c10:(IntKind.u64.wrap (a1))=0
     · rw [if_pos c10]at H;exact absurd H (by simp)
     · rw [if_neg c10]at H;have c10b0:((IntKind.u64.wrap (a1))==0)=false:=beq_eq_false_iff_ne.mpr c10;have c10b1:((IntKind.u64.wrap (a1)) !=0)=true:=bne_iff_ne.mpr c10;replace H:=ifs H;obtain⟨c11,H⟩:=H;have c11b0:=decide_eq_true c11;clear c11;obtain⟨y152,hy152⟩:∃y_:List Int,y_=(x6_1.set (x8_1:Int).toNat ((IntKind.u64.wrap (Int.tdiv (IntKind.u64.wrap ((IntKind.u64.wrap (x7_1*1000000000))+(IntKind.u64.wrap (rd l0 x8_1)))) (IntKind.u64.wrap (a1))))%4294967296)):=⟨_,rfl⟩;replace H:(whole_small.l0 k1 l0 a1 y152 (Int.tmod (IntKind.u64.wrap ((IntKind.u64.wrap (x7_1*1000000000))+(IntKind.u64.wrap (rd l0 x8_1)))) (IntKind.u64.wrap (a1))) (wrap64 (x8_1-1)))=some (r1,r2):=ry hy152 H;have Ny152:=Aside0.mk hy152;clear hy152;have H':=Aside0.mk H;clear H;have p151:0≤(x8_1:Int):=oda;have q151:x8_1<(l0.length:Int):=oda;obtain⟨ad151,e151,hx151_0⟩:=Kd.at_int HR0.out x8_1 p151 q151;cases e151;replace hx151_0:=(HB.out.cell (World.block_lt_of_cell? w _ hx151_0)).trans hx151_0;replace p151:=eq_true p151;replace q151:=eq_true q151;have p12:0≤(x8_1:Int):=oda;have q12:(x8_1:Int)<((x6_1.length:Int):Int):=oda;obtain⟨go12,co12,eo12,gb12,gl12,cl12,HG12⟩:=Kd.R_form HO_6.out (by omega);(first|cases eo12|(injection eo12 with ea_ en_ ec_;(first|subst ea_|(injection ea_ with ea_;subst ea_));subst ec_;clear en_))
       have GB12:=Aside0.mk gb12;have GG12:=Aside0.mk HG12;clear gb12 gl12 HG12;obtain⟨hx12_0,hf12_0⟩:=Kd.R_celln 0 HO_6.out (x8_1:Int) p12 q12;replace p12:=eq_true p12;replace q12:=eq_true q12;have HP13:=Kd.R_putg HO_6.out (x8_1:Int) ((IntKind.u64.wrap (Int.tdiv (IntKind.u64.wrap ((IntKind.u64.wrap (x7_1*1000000000))+(IntKind.u64.wrap (rd l0 x8_1)))) (IntKind.u64.wrap (a1))))%4294967296);go_wp2_with (first|((with_reducible refine gate_store (t:=95) (p:=35) rfl ?_);refine store_event (t:=95) (p:=35) (v:=?vo_w14) (w1:=(wr.setCell ⟨go12,(x8_1:Int).toNat,none⟩ (.int .u32 ((IntKind.u64.wrap (Int.tdiv (IntKind.u64.wrap ((IntKind.u64.wrap (x7_1*1000000000))+(IntKind.u64.wrap (rd l0 x8_1)))) (IntKind.u64.wrap (a1))))%4294967296)))) ?hg ?ho ?hn ?hr ?_;(case ho=>rfl);(case hg=>rfl);(case hn=>rfl);(case hr=>first|(go_simp;done)|(go_simp;rfl));intro w14 hw;have hg:wr.grownBy w14 (some go12):=(by rw [hw];exact HP13.2);have hp_:Kd.R (Kd.int .u32) 95 w14 w.heap.size (fun _=>True) (.slice (some ⟨go12,0,none⟩) x6_1.length co12) y152:=(by rw [hw,Ny152.out];exact HP13.1);clear HP13;have n0_:=Aside0.mk (hp_);have n1_:=Aside0.mk ((by rw [hw];exact below_set (HB.out) GB12.out:Below w.heap.size w w14));clear HO_6;clear HB;have HO_6:=n0_;have HB:=n1_;clear n0_ n1_;clear hg hw hp_))
       go_roundg k1
       case measure=>have:=HK1.out;omega
       case rel=>exact ⟨(y152),(Int.tmod (IntKind.u64.wrap ((IntKind.u64.wrap (x7_1*1000000000))+(IntKind.u64.wrap (rd l0 x8_1)))) (IntKind.u64.wrap (a1))),(wrap64 (x8_1-1)),pr1,pr1,H',⟨by have:=HK1.out;omega⟩,⟨rq HO_6.out⟩,⟨pb⟩⟩
   · rw [if_neg c7]at H;have c7b0:=decide_eq_false c7;clear c7;simp only [Option.some.injEq,Prod.mk.injEq]at H;obtain⟨rfl,rfl⟩:=H;go_wp2
     go_ret2
     exact⟨_,pr2,rq HO_6.out,pb⟩
end Go.Proofs.YtpdghgfbfmaplaaGreatDoor.PWhole
end
