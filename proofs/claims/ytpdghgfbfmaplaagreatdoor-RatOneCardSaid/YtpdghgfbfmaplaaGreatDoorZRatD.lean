/- Lemmas for RatOne and RatBetween. -/
import Derived.Test.YtpdghgfbfmaplaaGreatDoorZRatC
set_option maxRecDepth 100000
set_option maxHeartbeats 8000000
section
set_option linter.unusedVariables false
set_option linter.unusedSimpArgs false
namespace Go.Proofs.YtpdghgfbfmaplaaGreatDoor.Wh
open Go.RowKit Go.Proofs.YtpdghgfbfmaplaaGreatDoorW.PrintWords Go.Proofs.YtpdghgfbfmaplaaGreatDoor.Num Go.Proofs.YtpdghgfbfmaplaaGreatDoor.Dec
section
variable {w:World}
theorem c_FP{P:Nat→Prop}(a:ByteArray)(ha:a.size≤140737488351232)(hP:∀k,w.heap.size≤k→P k) :
 Calls Tryz.prog 62 #[.string a] w fun e w'=>∃x:FV,e=.returned (.tuple #[.agg #[.bool x.num.b,.slice x.num.A x.num.n x.num.c,.bool x.den.b,.slice x.den.A x.den.n x.den.c],.bool (numB a).isSome])∧(∀q,numB a=some q→IsF P 34 w' x q)∧Below w.heap.size w w':=by
 rw [sg_of a]
 refine(c_FParse a.data.toList (by rw [data_length];exact ha) hP).mono ?_
 rintro e w' ⟨⟨q,x,e1,e2,rfl,hx⟩|⟨hno,x,rfl⟩,hb⟩
 · have h1:numB a=some q:=numB_some.2 ⟨bs_of e1,e2⟩;exact⟨x,by rw [h1];rfl,fun p hp=>by rw [h1]at hp;cases hp;exact hx,hb⟩
 · have h1:numB a=none:=numOf_none.2 hno;exact⟨x,by rw [h1];rfl,(fun p hp=>by rw [h1]at hp;cases hp),hb⟩
noncomputable def rIs (a:ByteArray):Bool:=(numB a).isSome
theorem c_rIs(a:ByteArray)(ha:a.size≤140737488351232) :
 Calls Tryz.prog 18 #[.string a] w fun e w'=>e=.returned (.bool (rIs a))∧Below w.heap.size w w':=by
 have HA:=Lib.hid ha
 clear ha
 go_enter Tryz.func18,Tryz.ntmps18
 go_wp2_with fail
 refine(c_FP (P:=fun _=>True) a HA.out (fun _ _=>trivial)).mono ?_
 rintro e w1 ⟨x,rfl,hx,hb1⟩
 have HX:=Lib.hid hx
 clear hx
 go_wp2_with fail
 go_ret
 exact⟨rfl,blq⟩
theorem c_rCmp(a b:ByteArray)(ha:a.size≤140737488351232)(hb:b.size≤140737488351232) :
 Calls Tryz.prog 28 #[.string a,.string b] w fun e w'=>e=.returned (.tuple #[.int .i64 (rCmp a b).1,.int .i64 (rCmp a b).2])∧Below w.heap.size w w':=by
 have HA:=Lib.hid ha
 have HB:=Lib.hid hb
 clear ha hb
 go_enter Tryz.func28,Tryz.ntmps28
 go_wp2_with fail
 refine(c_parsed (P:=fun _=>True) [a,b] (strs_two w a b) (by simp) (by intro s hs;simp at hs;rcases hs with rfl|rfl;exact HA.out;exact HB.out) (fun _ _=>trivial)).mono ?_
 rintro e w1 ⟨⟨qs,xs,v,hq,rfl,hR,hFs⟩|⟨hn,rfl⟩,hb1⟩
 · obtain⟨q,p,h1,h2,rfl⟩:=numsB_two hq;obtain⟨x,y,rfl⟩:∃x y,xs= [x,y]:=by
    match xs,hFs.1 with
    | [x,y],_=>exact ⟨x,y,rfl⟩
   obtain⟨g,c,rfl,hfr⟩:=two_row hR;have HE:=Lib.hid (show rCmp a b=((q-p).num.sign,0) by rw [rCmp,h1,h2]);have HX:=Lib.hid (hFs.2 0 x q rfl rfl);have HY:=Lib.hid (hFs.2 1 y p rfl rfl);have HFR:=Lib.hid hfr;have HB1:=Lib.hid hb1;have hg:g<w1.heap.size:=hfr.1;have c0:=hfr.get 0 rfl;have c1:=hfr.get 1 rfl;have c2:=hfr.get 2 rfl;have c3:=hfr.get 3 rfl;have c4:=hfr.get 4 rfl;have c5:=hfr.get 5 rfl;have c6:=hfr.get 6 rfl;have c7:=hfr.get 7 rfl;clear hq hR hFs h1 h2 hfr hb1;go_wp2_with fail
   go_region_held3 (fun W=>W.cell? ⟨g,0,none⟩=some (.bool x.num.b)∧W.cell? ⟨g,1,none⟩=some (.slice x.num.A x.num.n x.num.c)∧W.cell? ⟨g,2,none⟩=some (.bool x.den.b)∧W.cell? ⟨g,3,none⟩=some (.slice x.den.A x.den.n x.den.c)∧W.cell? ⟨g,4,none⟩=some (.bool y.num.b)∧W.cell? ⟨g,5,none⟩=some (.slice y.num.A y.num.n y.num.c)∧W.cell? ⟨g,6,none⟩=some (.bool y.den.b)∧W.cell? ⟨g,7,none⟩=some (.slice y.den.A y.den.n y.den.c))
    (exact(HFR.out.go blq).all 0 8)
    (first
     | (go_at_call 46;go_must (with_reducible refine(c_FCmp (P:=fun _=>True) (K:=34) (HX.out.below blq) (HY.out.below blq) (by omega) (fun _ _=>trivial)).mono ?_);rintro e w2 ⟨rfl,hb2⟩))
   go_wp2_with fail
   go_ret2
   exact⟨by rw [HE.out];rfl,have hb9:=HB1.out;blq⟩
 · have HE:=Lib.hid (show rCmp a b=(0,1) by
    rcases numsB_two_none hn with h|h
    · rw [rCmp,h]
    · rw [rCmp,h];cases numB a <;> rfl)
   have HB1:=Lib.hid hb1;clear hn hb1;go_wp2_with fail
   go_ret2
   exact⟨by rw [HE.out];rfl,have hb9:=HB1.out;blq⟩
theorem c_rSign(a:ByteArray)(ha:a.size≤140737488351232) :
 Calls Tryz.prog 43 #[.string a] w fun e w'=>e=.returned (.tuple #[.int .i64 (rSign a).1,.int .i64 (rSign a).2])∧Below w.heap.size w w':=by
 have HA:=Lib.hid ha
 clear ha
 go_enter Tryz.func43,Tryz.ntmps43
 go_wp2_with fail
 refine(c_rCmp a ⟨#[48]⟩ HA.out (by decide)).mono ?_
 rintro e w1 ⟨rfl,hb1⟩
 go_wp2_with fail
 go_ret2
 exact⟨rfl,blq⟩
end
end Go.Proofs.YtpdghgfbfmaplaaGreatDoor.Wh
end
