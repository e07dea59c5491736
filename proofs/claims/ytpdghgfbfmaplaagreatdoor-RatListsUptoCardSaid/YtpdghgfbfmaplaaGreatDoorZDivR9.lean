/- Lemmas for RatLists. -/
import Derived.Test.YtpdghgfbfmaplaaGreatDoorZDiv0
set_option maxRecDepth 100000
set_option maxHeartbeats 8000000
section
set_option linter.unusedVariables false
namespace Go.Proofs.YtpdghgfbfmaplaaGreatDoor.Wh
open Go.RowKit Go.Proofs.YtpdghgfbfmaplaaGreatDoorW.PrintWords Go.Proofs.YtpdghgfbfmaplaaGreatDoor.Num Go.Proofs.YtpdghgfbfmaplaaGreatDoor.PWhole Go.Proofs.YtpdghgfbfmaplaaGreatDoor.WhC
theorem div_r9{P:Nat→Prop}{K:Nat}{wc:World}{Q:Exit→Act→World→Prop}{bx bz:Nat}{xb yb:Bool}{Aq Ar:Option Addr}{cq cr:Nat}{q r:List Int}{zq zr:Int}{s0 s1 s4 s5 s8 s9 s10 s11 s12 s13 s14 s15 s16 s17 s18 s19 s20 s21 s22 s23 s24 s25 s26 s27 s28 s29 s30 s31 s32 s33 s34 s35 s36 s37 s38 s39 s40 s41 s42 s43 s44 s45 s46 s47 s48 s49 s50 s51 s52 s53 s54 s55 s56 s57 s58 s59 s60 s61 s62 s63 s64 s65 s66 s67 s68:Value}
 (hx:wc.cell? ⟨bx,0,none⟩=some (.bool xb)) (hy:wc.cell? ⟨bz,0,none⟩=some (.bool yb)) (hbx:bx<wc.heap.size) (hbz:bz<wc.heap.size)
 (hq:Sl P wc (.slice Aq q.length cq) q) (hr:Sl P wc (.slice Ar r.length cr) r) (hdq:Dg B q) (hdr:Dg B r) (hlq:q.length≤20000000000000) (hlr:r.length≤20000000000000)
 (hvq:(zq.natAbs:Int)=val B q) (hvr:(zr.natAbs:Int)=val B r) (hmq:(!(xb==yb))=decide (zq<0)∨zq=0) (hmr:xb=decide (zr<0)∨zr=0) (hKq:zq.natAbs<1000000000^K) (hKr:zr.natAbs<1000000000^K) (hP:∀k,wc.heap.size≤k→P k)
 (hQ:∀(g9 g10:Nat) (qv rv:WV) (t45 t46 t47 t48 t49 t50 t51 t52 t53 t54 t55:Value) (W:World),R9 P K wc W g9 g10 qv rv zq zr→Q .normal ⟨#[s0,s1,.pointer (some ⟨bx,0,none⟩),.pointer (some ⟨bz,0,none⟩),s4,s5,.slice Aq q.length cq,.slice Ar r.length cr,s8,.pointer (some ⟨g9,0,none⟩),.pointer (some ⟨g10,0,none⟩),s11,s12,s13,s14,s15,s16,s17,s18,s19,s20,s21,s22,s23,s24,s25,s26,s27,s28,s29,s30,s31,s32,s33,s34,s35,s36,s37,s38,s39,s40,s41,s42,s43,s44,t45,t46,t47,t48,t49,t50,t51,t52,t53,t54,t55,s56,s57,s58,s59,s60,s61,s62,s63,s64,s65,s66,s67,s68],[]⟩ W) :
 Code.wp Tryz.prog ((Tryz.f100.body.bind (regOf 9)).getD .skip) Q ⟨#[s0,s1,.pointer (some ⟨bx,0,none⟩),.pointer (some ⟨bz,0,none⟩),s4,s5,.slice Aq q.length cq,.slice Ar r.length cr,s8,s9,s10,s11,s12,s13,s14,s15,s16,s17,s18,s19,s20,s21,s22,s23,s24,s25,s26,s27,s28,s29,s30,s31,s32,s33,s34,s35,s36,s37,s38,s39,s40,s41,s42,s43,s44,s45,s46,s47,s48,s49,s50,s51,s52,s53,s54,s55,s56,s57,s58,s59,s60,s61,s62,s63,s64,s65,s66,s67,s68],[]⟩ wc:=by
 have HQ:=Lib.hid hQ
 have HW:=Lib.hid (And.intro hq (And.intro hr (And.intro hdq hdr)))
 have HV:=Lib.hid (And.intro hvq (And.intro hvr (And.intro hmq hmr)))
 have HKQ:=Lib.hid hKq
 have HKR:=Lib.hid hKr
 have HP:=Lib.hid hP
 clear hQ hq hr hdq hdr hvq hvr hmq hmr hKq hKr hP
 conv=>arg 2;whnf
 go_region_held3 (fun W=>W.cell? ⟨bx,0,none⟩=some (.bool xb)∧W.cell? ⟨bz,0,none⟩=some (.bool yb))
  (exact⟨cell_below (show Below wc.heap.size wc _ from blo) hbx hx,cell_below (show Below wc.heap.size wc _ from blo) hbz hy⟩)
  (first
   | (go_at_call_of 112 (Value.slice Aq q.length cq);go_must (with_reducible refine(c_signed (P:=PW P wc.heap.size _) (K:=K) (!(xb==yb)) ((HW.out.1.bound.below blo).mono pw_old) (by omega) HW.out.2.2.1 zq HV.out.1 HV.out.2.2.1 HKQ.out (pw_new (fresh HP.out blo))).mono ?_);rintro e w7 ⟨qv,rfl,hqv,hb7⟩;have HQV:=Lib.hid hqv.bound;clear hqv;have hz7:wc.heap.size≤w7.heap.size:=(Below.size (show Below wc.heap.size wc w7 from blo));have hy7:=hb7.size;(try simp at hy7);(try (refine(fun(gl7_0:wc.heap.size<w7.heap.size)=>?_) ?gx;case gx=>omega));(try (refine(fun(ga7_0:w7.cell? ⟨wc.heap.size,0,none⟩=some (.bool false))=>?_) ?gx;case gx=>(first|exact gx0|fail)));(try (refine(fun(gf7_0:w7.frozen? ⟨wc.heap.size,0,none⟩=false)=>?_) ?gx;case gx=>(first|exact gx1|fail)));(try (refine(fun(ga7_1:w7.cell? ⟨wc.heap.size,1,none⟩=some (.slice none 0 0))=>?_) ?gx;case gx=>(first|exact gx0|fail)));(try (refine(fun(gf7_1:w7.frozen? ⟨wc.heap.size,1,none⟩=false)=>?_) ?gx;case gx=>(first|exact gx1|fail)));(try (refine(fun(gl7_1:wc.heap.size+1<w7.heap.size)=>?_) ?gx;case gx=>omega));(try (refine(fun(ga7_2:w7.cell? ⟨wc.heap.size+1,0,none⟩=some (.bool false))=>?_) ?gx;case gx=>(first|exact gx0|fail)));(try (refine(fun(gf7_2:w7.frozen? ⟨wc.heap.size+1,0,none⟩=false)=>?_) ?gx;case gx=>(first|exact gx1|fail)));(try (refine(fun(ga7_3:w7.cell? ⟨wc.heap.size+1,1,none⟩=some (.slice none 0 0))=>?_) ?gx;case gx=>(first|exact gx0|fail)));(try (refine(fun(gf7_3:w7.frozen? ⟨wc.heap.size+1,1,none⟩=false)=>?_) ?gx;case gx=>(first|exact gx1|fail))))
   | (go_at_call_of 112 (Value.slice Ar r.length cr);go_must (with_reducible refine(c_signed (P:=PW P wc.heap.size _) (K:=K) xb ((HW.out.2.1.bound.below blo).mono pw_old) (by omega) HW.out.2.2.2 zr HV.out.2.1 HV.out.2.2.2 HKR.out (pw_new (fresh HP.out blo))).mono ?_);rintro e w8 ⟨rv,rfl,hrv,hb8⟩;have HRV:=Lib.hid hrv.bound;clear hrv;have hz8:w7.heap.size≤w8.heap.size:=(Below.size (show Below w7.heap.size w7 w8 from blo));have hy8:=hb8.size;(try simp at hy8);(try (refine(fun(gl8_0:wc.heap.size<w8.heap.size)=>?_) ?gx;case gx=>omega));(try (refine(fun(ga8_0:w8.cell? ⟨wc.heap.size,0,none⟩=some (.bool false))=>?_) ?gx;case gx=>(first|exact gx0|fail)));(try (refine(fun(gf8_0:w8.frozen? ⟨wc.heap.size,0,none⟩=false)=>?_) ?gx;case gx=>(first|exact gx1|fail)));(try (refine(fun(ga8_1:w8.cell? ⟨wc.heap.size,1,none⟩=some (.slice none 0 0))=>?_) ?gx;case gx=>(first|exact gx0|fail)));(try (refine(fun(gf8_1:w8.frozen? ⟨wc.heap.size,1,none⟩=false)=>?_) ?gx;case gx=>(first|exact gx1|fail)));(try (refine(fun(gl8_1:wc.heap.size+1<w8.heap.size)=>?_) ?gx;case gx=>omega));(try (refine(fun(ga8_2:w8.cell? ⟨wc.heap.size+1,0,none⟩=some (.bool false))=>?_) ?gx;case gx=>(first|exact gx0|fail)));(try (refine(fun(gf8_2:w8.frozen? ⟨wc.heap.size+1,0,none⟩=false)=>?_) ?gx;case gx=>(first|exact gx1|fail)));(try (refine(fun(ga8_3:w8.cell? ⟨wc.heap.size+1,1,none⟩=some (.slice none 0 0))=>?_) ?gx;case gx=>(first|exact gx0|fail)));(try (refine(fun(gf8_3:w8.frozen? ⟨wc.heap.size+1,1,none⟩=false)=>?_) ?gx;case gx=>(first|exact gx1|fail)));(try (refine(fun(gl8_2:w7.heap.size<w8.heap.size)=>?_) ?gx;case gx=>omega));(try (refine(fun(ga8_4:w8.cell? ⟨w7.heap.size,0,none⟩=some (.bool false))=>?_) ?gx;case gx=>(first|exact gx0|fail)));(try (refine(fun(gf8_4:w8.frozen? ⟨w7.heap.size,0,none⟩=false)=>?_) ?gx;case gx=>(first|exact gx1|fail)));(try (refine(fun(ga8_5:w8.cell? ⟨w7.heap.size,1,none⟩=some (.slice none 0 0))=>?_) ?gx;case gx=>(first|exact gx0|fail)));(try (refine(fun(gf8_5:w8.frozen? ⟨w7.heap.size,1,none⟩=false)=>?_) ?gx;case gx=>(first|exact gx1|fail)));(try (refine(fun(gl8_3:w7.heap.size+1<w8.heap.size)=>?_) ?gx;case gx=>omega));(try (refine(fun(ga8_6:w8.cell? ⟨w7.heap.size+1,0,none⟩=some (.bool false))=>?_) ?gx;case gx=>(first|exact gx0|fail)));(try (refine(fun(gf8_6:w8.frozen? ⟨w7.heap.size+1,0,none⟩=false)=>?_) ?gx;case gx=>(first|exact gx1|fail)));(try (refine(fun(ga8_7:w8.cell? ⟨w7.heap.size+1,1,none⟩=some (.slice none 0 0))=>?_) ?gx;case gx=>(first|exact gx0|fail)));(try (refine(fun(gf8_7:w8.frozen? ⟨w7.heap.size+1,1,none⟩=false)=>?_) ?gx;case gx=>(first|exact gx1|fail)))))
 all_goals (
  refine HQ.out _ _ qv rv _ _ _ _ _ _ _ _ _ _ _ _ ⟨?_,?_,?_,?_,?_,?_,?_,?_,?_,?_⟩
  · (first|(simp <;> fail)|omega|(simp;omega))
  · (first|(simp <;> fail)|omega|(simp;omega))
  · (first|(simp <;> fail)|omega|(simp;omega))
  · (first|(simp <;> fail)|omega|(simp;omega))
  · (first|(simp <;> fail)|omega|(simp;omega))
  · repeat' (first
     | (with_reducible refine Fr.lit2 (by first|exact rfl|(simp;omega)|simp))
     | (with_reducible refine Fr.box (a:=.bool false) (b:=.slice none 0 0) ?_)
     | (with_reducible refine Fr.far2 ?_ (by first|omega|(simp;omega)|simp))
     | (with_reducible refine Fr.alcx ?_)
     | (with_reducible exact Fr.cons (Fr.cons (Fr.nil (by omega)) (by omega) (by assumption) (by assumption)) (by omega) (by assumption) (by assumption))
     | fail)
  · repeat' (first
     | (with_reducible refine Fr.lit2 (by first|exact rfl|(simp;omega)|simp))
     | (with_reducible refine Fr.box (a:=.bool false) (b:=.slice none 0 0) ?_)
     | (with_reducible refine Fr.far2 ?_ (by first|omega|(simp;omega)|simp))
     | (with_reducible refine Fr.alcx ?_)
     | (with_reducible exact Fr.cons (Fr.cons (Fr.nil (by omega)) (by omega) (by assumption) (by assumption)) (by omega) (by assumption) (by assumption))
     | fail)
  · repeat (first|(with_reducible exact IsW.mono HQV.out (pw_ex (by(first|(simp <;> fail)|omega|(simp;omega))) (by(first|(simp <;> fail)|omega|(simp;omega)))))|(with_reducible refine IsW.set ?_ _ _)|(with_reducible refine IsW.set9 ?_ _ _)|(with_reducible refine IsW.alc ?_)|(with_reducible refine IsW.drw ?_)|(with_reducible refine IsW.below ?_ (by with_reducible assumption))|fail)
  · repeat (first|(with_reducible exact IsW.mono HRV.out (pw_ex (by(first|(simp <;> fail)|omega|(simp;omega))) (by(first|(simp <;> fail)|omega|(simp;omega)))))|(with_reducible refine IsW.set ?_ _ _)|(with_reducible refine IsW.set9 ?_ _ _)|(with_reducible refine IsW.alc ?_)|(with_reducible refine IsW.drw ?_)|(with_reducible refine IsW.below ?_ (by with_reducible assumption))|fail)
  · exact blo)
end Go.Proofs.YtpdghgfbfmaplaaGreatDoor.Wh
end
