/- Lemmas for RatLists. -/
import Derived.Test.YtpdghgfbfmaplaaGreatDoorZRefH
set_option maxRecDepth 100000
set_option maxHeartbeats 8000000
section
set_option linter.unusedVariables false
namespace Go.Proofs.YtpdghgfbfmaplaaGreatDoor.Rf
open Go.RowKit Go.Proofs.YtpdghgfbfmaplaaGreatDoorW.PrintWords Go.Proofs.YtpdghgfbfmaplaaGreatDoor.Num Go.Proofs.YtpdghgfbfmaplaaGreatDoor.PRef Go.Proofs.YtpdghgfbfmaplaaGreatDoor.WhC Go.Proofs.YtpdghgfbfmaplaaGreatDoor.Dec Go.Proofs.YtpdghgfbfmaplaaGreatDoor.Wh
theorem split_neg(l:List UInt8):∃neg body,l=sgl neg body∧(neg=false→body.head?≠some 45):=by
 cases l with
 | nil=>exact ⟨false,[],rfl,fun _ h=>by cases h⟩
 | cons c t =>
  by_cases h:c=45
  · subst h;exact⟨true,t,rfl,fun h=>by cases h⟩
  · exact⟨false,c :: t,rfl,fun _ h2=>h (by simpa using h2)⟩
theorem split_slash(l:List UInt8):(47:UInt8)∉l∨∃a b,l=a++47 :: b∧(47:UInt8)∉a:=by
 induction l with
 | nil=>exact .inl (by simp)
 | cons c t ih =>
  by_cases h:c=47
  · subst h;exact .inr ⟨[],t,rfl,by simp⟩
  · rcases ih with h1|⟨a,b,h1,h2⟩
    · exact .inl (by simp;exact⟨fun e=>h e.symm,h1⟩)
    · exact .inr ⟨c :: a,b,by rw [h1];rfl,by simp;exact⟨fun e=>h e.symm,h2⟩⟩
theorem dec_head(n:Nat):(dec n).head?≠some 45:=by
 cases h:dec n with
 | nil=>simp
 | cons c t =>
  intro h2;simp only [List.head?_cons,Option.some.injEq]at h2;have:=dec_digs n c (by rw [h];exact List.mem_cons_self);subst h2;exact absurd this.1 (by decide)
theorem sgl_strW{neg:Bool}{a:List UInt8}{z:Int}(hn:neg=false→a.head?≠some 45)(h:sgl neg a=strW z):neg=decide (z<0)∧a=dec z.natAbs:=by
 unfold strW at h
 cases neg with
 | true =>
  split at h
  · rename_i hz
    rw [decide_eq_true hz];exact⟨rfl,by injection h⟩
  · exfalso
    have:=dec_head z.natAbs;rw [←h]at this;exact this rfl
 | false =>
  split at h
  · exfalso
    have h2:a=45 :: dec z.natAbs:=h;exact hn rfl (by rw [h2];rfl)
  · rename_i hz
    rw [decide_eq_false hz];exact⟨rfl,h⟩
theorem good_dec{n:Nat}(h:(dec n).length≤300):Good (dec n):=⟨dec_digs n,dec_lead n,h⟩
theorem good_val{a:List UInt8}(h:Good a):a=dec (dval a):=(dec_of h.1 h.2.1).symm
theorem sgl_app(neg:Bool)(a b:List UInt8):sgl neg (a++47 :: b)=sgl neg a++47 :: b:=by cases neg <;> rfl
theorem sgl_no{neg:Bool}{a:List UInt8}(h:(47:UInt8)∉a):(47:UInt8)∉sgl neg a:=by
 cases neg with
 | true=>show (47:UInt8)∉45 :: a;simp;exact h
 | false=>exact h
theorem whole_case{s:ByteArray}{neg:Bool}{a:List UInt8}{q:Rat}(hs:s.data.toList=sgl neg a)(hn:neg=false→a.head?≠some 45)(ha:(47:UInt8)∉a)(h:numB s=some q):neg=decide (q.num<0)∧a=dec q.num.natAbs∧Good a:=by
 obtain⟨h1,h2⟩:=numB_some.1 h
 rw [h1,bsOf_list]at hs
 obtain⟨z,hz⟩:=strF_whole (l:=sgl neg a) hs.symm (sgl_no ha)
 have hd:q.den=1:=by
  by_cases hd:q.den=1
  · exact hd
  · exfalso
    unfold strF at hs
    rw [if_neg hd]at hs;have:=sgl_no (neg:=neg) ha;rw [←hs]at this;simp at this
 unfold strF at hs
 rw [if_pos hd]at hs
 obtain⟨e1,e2⟩:=sgl_strW hn hs.symm
 exact⟨e1,e2,by rw [e2];exact good_dec h2.1⟩
theorem slash_case{s:ByteArray}{neg:Bool}{a b:List UInt8}{q:Rat}(hs:s.data.toList=sgl neg (a++47 :: b))(hn:neg=false→(a++47 :: b).head?≠some 45)(ha:(47:UInt8)∉a)(h:numB s=some q):neg=decide (q.num<0)∧a=dec q.num.natAbs∧b=dec q.den∧¬q.den=1∧Short q:=by
 obtain⟨h1,h2⟩:=numB_some.1 h
 rw [h1,bsOf_list,sgl_app]at hs
 obtain⟨e1,e2,e3⟩:=strF_split hs.symm (sgl_no ha)
 have hn':neg=false→a.head?≠some 45:=by
  intro h3 h4;refine hn h3 ?_;cases a with
  | nil=>cases h4
  | cons c t=>exact h4
 obtain⟨f1,f2⟩:=sgl_strW hn' e1
 exact⟨f1,f2,e2,e3,h2⟩
theorem none_of{s:ByteArray}(h:∀q,numB s=some q→False):numB s=none:=by
 cases e:numB s with
 | none=>rfl
 | some q=>exact absurd e (fun e=>h q e)
def sgn(neg:Bool)(n:Nat):Int:=if neg=true then -(n:Int)else n
theorem sgn_abs(neg:Bool)(n:Nat):(sgn neg n).natAbs=n:=by unfold sgn;split <;> omega
theorem sgn_neg{neg:Bool}{n:Nat}(h:neg=true→n≠0):neg=decide (sgn neg n<0):=by
 cases neg with
 | true=>exact (decide_eq_true (by have:=h rfl;show -(n:Int)<0;omega)).symm
 | false=>exact (decide_eq_false (by show ¬(n:Int)<0;omega)).symm
theorem strW_sgn{neg:Bool}{n:Nat}(h:neg=true→n≠0):strW (sgn neg n)=sgl neg (dec n):=by
 have h1:=sgn_neg h
 unfold strW
 rw [sgn_abs]
 cases neg with
 | true=>rw [if_pos (by simpa using h1.symm)];rfl
 | false=>rw [if_neg (by simpa using h1.symm)];rfl
section
variable {P:Nat→Prop} {w:World}
theorem q_Read(s:ByteArray)(hz:s.size≤140737488351232)(hP:∀k,w.heap.size≤k→P k) :
 Calls Tryz.prog 51 #[.string s] w fun e w'=>((∃(q:Rat) (r:QV),numB s=some q∧e=.returned (.tuple #[.agg #[.bool r.b,.slice r.nA r.nn r.nc,.slice r.dA r.dn r.dc],.bool true])∧IsQ P 75 w' r q) ∨
  (numB s=none∧e=.returned (.tuple #[.agg #[.bool false,.slice none 0 0,.slice none 0 0],.bool false])))∧Below w.heap.size w w':=by
 obtain⟨neg,body,hs,hn⟩:=split_neg s.data.toList
 rcases split_slash body with ha|⟨a,b,rfl,ha⟩
 · have hs':s.data.toList=sgl neg (body++ []):=by rw [List.append_nil];exact hs
   have hn':neg=false→(body++ []).head?≠some 45:=by rw [List.append_nil];exact hn
   by_cases hg:Good body
   · by_cases h0:neg=true∧dval body=0
     · refine(read_z0 hs' hn' ha hz hP h0.1 hg h0.2).mono ?_;rintro e w' ⟨rfl,hb⟩;refine⟨.inr ⟨none_of fun q hq=>?_,rfl⟩,hb⟩;obtain⟨e1,e2,_⟩:=whole_case hs hn ha hq;have h3:=h0.2;rw [e2,dval_dec]at h3;have h4:=h0.1;rw [e1]at h4;simp at h4
       omega
     · have hnz:neg=true→dval body≠0:=fun h1 h2=>h0 ⟨h1,h2⟩
       have hq:numB s=some ((sgn neg (dval body):Int):Rat):=by
        rw [numB_some];refine⟨?_,?_,?_⟩
        · rw [bs_of hs];congr 1
          rw [strF,if_pos (show((sgn neg (dval body):Int):Rat).den=1 from rfl)];show sgl neg body=strW (sgn neg (dval body))
          rw [strW_sgn hnz,←good_val hg]
        · show(dec (sgn neg (dval body)).natAbs).length≤300
          rw [sgn_abs,←good_val hg];exact hg.2.2
        · show(dec 1).length≤300
          rw [dec_small (by decide)];simp
       refine(read_y0 hs' hn' ha hz hP (q:=((sgn neg (dval body):Int):Rat)) (sgn_abs _ _) rfl (sgn_neg hnz) hnz hg).mono ?_;rintro e w' ⟨r,rfl,hr,hb⟩;exact⟨.inl ⟨_,r,hq,rfl,hr⟩,hb⟩
   · refine(read_na0 hs' hn' ha hz hg).mono ?_;rintro e w' ⟨rfl,hb⟩;exact⟨.inr ⟨none_of fun q hq=>hg (whole_case hs hn ha hq).2.2,rfl⟩,hb⟩
 · have no:∀ {e:Ending} {w':World},(¬(Good a∧Good b∧1<dval b∧Nat.gcd (dval a) (dval b)=1))→numB s=none:=by
    intro e w' h;refine none_of fun q hq=>h ?_
    obtain⟨e1,e2,e3,e4,e5⟩:=slash_case hs hn ha hq;refine⟨by rw [e2];exact good_dec e5.1,by rw [e3];exact good_dec e5.2,?_,?_⟩
    · rw [e3,dval_dec];have:=q.den_pos;omega
    · rw [e2,e3,dval_dec,dval_dec];exact q.reduced
   by_cases hg:Good a
   · by_cases hgb:Good b
     · by_cases hd:1<dval b
       · by_cases hgc:Nat.gcd (dval a) (dval b)=1
         · have hnz:neg=true→dval a≠0:=by
            intro _ h0;rw [h0,Nat.gcd_zero_left]at hgc;omega
           obtain⟨q,hqn,hqd⟩:∃q:Rat,q.num=sgn neg (dval a)∧q.den=dval b:=⟨⟨sgn neg (dval a),dval b,by omega,by rw [sgn_abs];exact hgc⟩,rfl,rfl⟩;have hq:numB s=some q:=by
            rw [numB_some];refine⟨?_,?_,?_⟩
            · rw [bs_of hs];congr 1
              rw [strF,if_neg (by omega),hqn,hqd,sgl_app,strW_sgn hnz,←good_val hg,←good_val hgb]
            · rw [hqn,sgn_abs,←good_val hg];exact hg.2.2
            · rw [hqd,←good_val hgb];exact hgb.2.2
           refine(read_y1 hs hn ha hz hP (q:=q) (by rw [hqn,sgn_abs]) hqd (by rw [hqn];exact sgn_neg hnz) hnz hg hgb hd hgc).mono ?_;rintro e w' ⟨r,rfl,hr,hb⟩;exact⟨.inl ⟨q,r,hq,rfl,hr⟩,hb⟩
         · refine(read_g1 hs hn ha hz hP hg hgb hd hgc).mono ?_;rintro e w' ⟨rfl,hb⟩;exact⟨.inr ⟨no (e:=.returned (.bool true)) (w':=w') (fun h=>hgc h.2.2.2),rfl⟩,hb⟩
       · refine(read_d1 hs hn ha hz hP hg hgb (by omega)).mono ?_;rintro e w' ⟨rfl,hb⟩;exact⟨.inr ⟨no (e:=.returned (.bool true)) (w':=w') (fun h=>hd h.2.2.1),rfl⟩,hb⟩
     · refine(read_nb hs hn ha hz hP hg hgb).mono ?_;rintro e w' ⟨rfl,hb⟩;exact⟨.inr ⟨no (e:=.returned (.bool true)) (w':=w') (fun h=>hgb h.2.1),rfl⟩,hb⟩
   · refine(read_na1 hs hn ha hz hg).mono ?_;rintro e w' ⟨rfl,hb⟩;exact⟨.inr ⟨no (e:=.returned (.bool true)) (w':=w') (fun h=>hg h.1),rfl⟩,hb⟩
end
end Go.Proofs.YtpdghgfbfmaplaaGreatDoor.Rf
end
