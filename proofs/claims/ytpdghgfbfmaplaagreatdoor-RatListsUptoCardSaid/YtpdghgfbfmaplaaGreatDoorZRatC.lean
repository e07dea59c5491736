/- Lemmas for RatLists. -/
import Derived.Test.YtpdghgfbfmaplaaGreatDoorQL
set_option maxRecDepth 100000
set_option maxHeartbeats 8000000
section
set_option linter.unusedVariables false
set_option linter.unusedSimpArgs false
namespace Go.Proofs.YtpdghgfbfmaplaaGreatDoor.Wh
open Go.RowKit Go.Proofs.YtpdghgfbfmaplaaGreatDoorW.PrintWords Go.Proofs.YtpdghgfbfmaplaaGreatDoor.Num Go.Proofs.YtpdghgfbfmaplaaGreatDoor.Dec
theorem row_cells{W:World}{base g n cap:Nat}{ok:Nat→Prop}{xs:List FV}(h:Kd.R fvK 52 W base ok (.slice (some ⟨g,0,none⟩) n cap) xs):g<W.heap.size∧∀i x,xs[i]?=some x→∀j u,(fcells x)[j]?=some u→W.cell? ⟨g,i*4+j,none⟩=some u∧W.frozen? ⟨g,i*4+j,none⟩=false:=by
 have hn:=(Kd.R_reads' h).1
 obtain⟨inner,ho⟩:=Kd.R_own h
 refine⟨own_lt ho g rfl,fun i x hi j u hj=>?_⟩
 have hil:i<xs.length:=by
  rcases Nat.lt_or_ge i xs.length with h1|h1
  · exact h1
  · rw [List.getElem?_eq_none h1]at hi;cases hi
 obtain⟨c,h1,h2,h3,h4⟩:=Kd.R_elem h x (i:Int) (by omega) (by omega)
 rw [Int.toNat_natCast]at h2 h3 h4
 have h5:xs.getD i x=x:=by simp [List.getD_eq_getElem?_getD,hi]
 rw [h5]at h2
 have h6:c=fcells x:=h2
 subst h6
 exact⟨h3 j u hj,h4 j⟩
theorem two_row{W:World}{base:Nat}{ok:Nat→Prop}{x y:FV}{v:Value}(h:Kd.R fvK 52 W base ok v [x,y]):∃g c,v=.slice (some ⟨g,0,none⟩) 2 c∧Fr [(g,0,.bool x.num.b),(g,1,.slice x.num.A x.num.n x.num.c),(g,2,.bool x.den.b),(g,3,.slice x.den.A x.den.n x.den.c),(g,4,.bool y.num.b),(g,5,.slice y.num.A y.num.n y.num.c),(g,6,.bool y.den.b),(g,7,.slice y.den.A y.den.n y.den.c)] (g+1) W:=by
 obtain⟨inner,ho⟩:=Kd.R_own h
 rcases ho.2 with ⟨_,h2⟩|⟨g,cap,cur,rfl,_⟩
 · cases h2
 · obtain⟨h1,h2⟩:=row_cells h;have e0:=fun j u hj=>h2 0 x rfl j u hj
   have e1:=fun j u hj=>h2 1 y rfl j u hj
   refine⟨g,cap,rfl,?_⟩;refine(Fr.cons (Fr.cons (Fr.cons (Fr.cons (Fr.cons (Fr.cons (Fr.cons (Fr.cons (Fr.nil (by omega)) (by omega) ?_ ?_) (by omega) ?_ ?_) (by omega) ?_ ?_) (by omega) ?_ ?_) (by omega) ?_ ?_) (by omega) ?_ ?_) (by omega) ?_ ?_) (by omega) ?_ ?_)
   · exact(e1 3 _ rfl).1
   · exact(e1 3 _ rfl).2
   · exact(e1 2 _ rfl).1
   · exact(e1 2 _ rfl).2
   · exact(e1 1 _ rfl).1
   · exact(e1 1 _ rfl).2
   · exact(e1 0 _ rfl).1
   · exact(e1 0 _ rfl).2
   · exact(e0 3 _ rfl).1
   · exact(e0 3 _ rfl).2
   · exact(e0 2 _ rfl).1
   · exact(e0 2 _ rfl).2
   · exact(e0 1 _ rfl).1
   · exact(e0 1 _ rfl).2
   · exact(e0 0 _ rfl).1
   · exact(e0 0 _ rfl).2
theorem strs_two(w:World)(a b:ByteArray):Kd.string.C (w.alloc (.cells #[.string a,.string b] 9)) (some ⟨w.heap.size,0,none⟩) [a,b].length [a,b]:=by
 refine Kd.C_of_reads (d:=ByteArray.empty) ⟨rfl,by simp,fun _=>⟨_,rfl,fun j hj=>?_⟩⟩
 rw [add_plain]
 match j,hj with
 | 0,_=>simp
 | 1,_=>simp
theorem numsB_two{a b:ByteArray}{qs:List Rat}(h:numsB [a,b]=some qs):∃q p,numB a=some q∧numB b=some p∧qs= [q,p]:=by
 unfold numsB numsB numsB at h
 cases h1:numB a <;> cases h2:numB b <;> rw [h1,h2]at h <;> cases h
 exact⟨_,_,rfl,rfl,rfl⟩
theorem numsB_two_none{a b:ByteArray}(h:numsB [a,b]=none):numB a=none∨numB b=none:=by
 unfold numsB numsB numsB at h
 cases h1:numB a <;> cases h2:numB b <;> simp_all
section
variable {w:World}
theorem c_two{F:Nat}{f:Rat→Rat→Rat}{K:Nat}(a b:ByteArray)(ha:a.size≤140737488351232)(hb:b.size≤140737488351232)(hK:K≤15637498706000)(hcf:∀(args:Array Value) (W:World),Sem.run Tryz.prog (callFunc F args) W=Result.ok (Next.enter F args) W)
 (hF:∀(x y:FV) (q p:Rat) (W:World),numB a=some q→numB b=some p→IsF (fun _=>True) 34 W x q→IsF (fun _=>True) 34 W y p→Calls Tryz.prog F #[.agg #[.bool x.num.b,.slice x.num.A x.num.n x.num.c,.bool x.den.b,.slice x.den.A x.den.n x.den.c],.agg #[.bool y.num.b,.slice y.num.A y.num.n y.num.c,.bool y.den.b,.slice y.den.A y.den.n y.den.c]] W fun e W'=>∃r:FV,e=.returned (.agg #[.bool r.num.b,.slice r.num.A r.num.n r.num.c,.bool r.den.b,.slice r.den.A r.den.n r.den.c])∧IsF (fun _=>True) K W' r (f q p)∧Below W.heap.size W W') :
 Calls Tryz.prog 69 #[.string a,.string b,.func (.func F) #[] #[]] w fun e w'=>e=.returned (.tuple #[.string (rBin f a b).1,.int .i64 (rBin f a b).2])∧Below w.heap.size w w':=by
 have HA:=Lib.hid ha
 have HB:=Lib.hid hb
 have HK:=Lib.hid hK
 have HF:=Lib.hid hF
 clear ha hb hK hF
 go_enter Tryz.func69,Tryz.ntmps69
 go_wp2_with fail
 refine(c_parsed (P:=fun _=>True) [a,b] (strs_two w a b) (by simp) (by intro s hs;simp at hs;rcases hs with rfl|rfl;exact HA.out;exact HB.out) (fun _ _=>trivial)).mono ?_
 rintro e w1 ⟨⟨qs,xs,v,hq,rfl,hR,hFs⟩|⟨hn,rfl⟩,hb1⟩
 · obtain⟨q,p,h1,h2,rfl⟩:=numsB_two hq;obtain⟨x,y,rfl⟩:∃x y,xs= [x,y]:=by
    match xs,hFs.1 with
    | [x,y],_=>exact ⟨x,y,rfl⟩
   obtain⟨g,c,rfl,hfr⟩:=two_row hR;have HE:=Lib.hid (show rBin f a b=tellB (f q p) by rw [rBin,h1,h2]);have HX:=Lib.hid (hFs.2 0 x q rfl rfl);have HY:=Lib.hid (hFs.2 1 y p rfl rfl);have H1:=Lib.hid h1;have H2:=Lib.hid h2;have HFR:=Lib.hid hfr;have HB1:=Lib.hid hb1;have hg:g<w1.heap.size:=hfr.1;have c0:=hfr.get 0 rfl;have c1:=hfr.get 1 rfl;have c2:=hfr.get 2 rfl;have c3:=hfr.get 3 rfl;have c4:=hfr.get 4 rfl;have c5:=hfr.get 5 rfl;have c6:=hfr.get 6 rfl;have c7:=hfr.get 7 rfl;clear hq hR hFs h1 h2 hfr hb1;go_wp2_with fail
   go_region_held3 (fun W=>W.cell? ⟨g,0,none⟩=some (.bool x.num.b)∧W.cell? ⟨g,1,none⟩=some (.slice x.num.A x.num.n x.num.c)∧W.cell? ⟨g,2,none⟩=some (.bool x.den.b)∧W.cell? ⟨g,3,none⟩=some (.slice x.den.A x.den.n x.den.c)∧W.cell? ⟨g,4,none⟩=some (.bool y.num.b)∧W.cell? ⟨g,5,none⟩=some (.slice y.num.A y.num.n y.num.c)∧W.cell? ⟨g,6,none⟩=some (.bool y.den.b)∧W.cell? ⟨g,7,none⟩=some (.slice y.den.A y.den.n y.den.c))
    (exact(HFR.out.go blq).all 0 8)
    (first
     | (go_at_call 48;go_must (with_reducible refine(c_told (HR.out.below blq) HK.out).mono ?_);rintro e w3 ⟨rfl,hb3⟩)
     | (refine(HF.out x y q p _ H1.out H2.out (HX.out.below blq) (HY.out.below blq)).mono ?_;rintro e w2 ⟨r,rfl,hr,hb2⟩;have HR:=Lib.hid hr;clear hr))
   go_wp2_with fail
   go_ret2
   exact⟨by rw [HE.out];rfl,have hb9:=HB1.out;blq⟩
 · have HE:=Lib.hid (show rBin f a b=(nob,1) by
    rcases numsB_two_none hn with h|h
    · rw [rBin,h]
    · rw [rBin,h];cases numB a <;> rfl)
   have HB1:=Lib.hid hb1;clear hn hb1;go_wp2_with fail
   go_ret2
   exact⟨by rw [HE.out];rfl,have hb9:=HB1.out;blq⟩
theorem c_rAdd(a b:ByteArray)(ha:a.size≤140737488351232)(hb:b.size≤140737488351232) :
 Calls Tryz.prog 20 #[.string a,.string b] w fun e w'=>e=.returned (.tuple #[.string (rAdd a b).1,.int .i64 (rAdd a b).2])∧Below w.heap.size w w':=by
 have H2:=fun (W:World)=>c_two (w:=W) (F:=70) (f:=(· + ·)) (K:=34+34+2) a b ha hb (by omega) (fun args W=>by simp [go_sem]) (fun x y q p W _ _ hx hy=>c_FAdd (K:=34) (P:=fun _=>True) hx hy (by omega) (fun _ _=>trivial))
 have H2:=Lib.hid H2
 clear ha hb
 go_enter Tryz.func20,Tryz.ntmps20
 go_wp2_with fail
 refine(H2.out _).mono ?_
 rintro e w1 ⟨rfl,hb1⟩
 go_wp2_with fail
 go_ret2
 exact⟨rfl,blq⟩
theorem c_rMul(a b:ByteArray)(ha:a.size≤140737488351232)(hb:b.size≤140737488351232) :
 Calls Tryz.prog 24 #[.string a,.string b] w fun e w'=>e=.returned (.tuple #[.string (rMul a b).1,.int .i64 (rMul a b).2])∧Below w.heap.size w w':=by
 have H2:=fun (W:World)=>c_two (w:=W) (F:=74) (f:=(· * ·)) (K:=34+34+1) a b ha hb (by omega) (fun args W=>by simp [go_sem]) (fun x y q p W _ _ hx hy=>c_FMul (K:=34) (P:=fun _=>True) hx hy (by omega) (fun _ _=>trivial))
 have H2:=Lib.hid H2
 clear ha hb
 go_enter Tryz.func24,Tryz.ntmps24
 go_wp2_with fail
 refine(H2.out _).mono ?_
 rintro e w1 ⟨rfl,hb1⟩
 go_wp2_with fail
 go_ret2
 exact⟨rfl,blq⟩
end
end Go.Proofs.YtpdghgfbfmaplaaGreatDoor.Wh
end
