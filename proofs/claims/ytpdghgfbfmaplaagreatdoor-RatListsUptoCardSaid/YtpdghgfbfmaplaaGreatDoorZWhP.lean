/- Lemmas for RatLists. -/
import Derived.Test.YtpdghgfbfmaplaaGreatDoorQM
import Derived.Laws.RangeAny
set_option maxRecDepth 100000
set_option maxHeartbeats 8000000
section
set_option linter.unusedVariables false
namespace Go.Proofs.YtpdghgfbfmaplaaGreatDoor.Wh
open Go.RowKit Go.Proofs.YtpdghgfbfmaplaaGreatDoorW.PrintWords Go.Proofs.YtpdghgfbfmaplaaGreatDoor.Num Go.Proofs.YtpdghgfbfmaplaaGreatDoor.Dec Go.Proofs.YtpdghgfbfmaplaaGreatDoor.PWhole Go.Proofs.YtpdghgfbfmaplaaGreatDoor.WhC
def ParsePost(P:Nat→Prop)(l:List UInt8)(w:World)(e:Ending)(w':World):Prop :=
 (∃(z:Int) (x:WV),l=strW z∧e=.returned (.tuple #[.agg #[.bool x.b,.slice x.A x.n x.c],.bool true])∧IsW P ((l.length+8)/9) w' x z∧Below w.heap.size w w')∨((∀z,l≠strW z)∧e=.returned (.tuple #[.agg #[.bool false,.slice none 0 0],.bool false])∧Below w.heap.size w w')
def PRel(l t:List UInt8)(m:Bool):Prop:=(m=true∧l=45 :: t)∨(m=false∧l=t∧l.head?≠some 45)
theorem prel_of(l:List UInt8):PRel l (if l.head?=some 45 then l.tail else l) (decide (l.head?=some 45)):=by
 by_cases h:l.head?=some 45
 · left
   rw [if_pos h];refine⟨by simpa using h,?_⟩;cases l with
   | nil=>simp at h
   | cons x t=>simp at h;rw [h];rfl
 · right
   rw [if_neg h];exact⟨by simpa using h,rfl,h⟩
theorem prel_str{l t:List UInt8}{m:Bool}(h:PRel l t m){z:Int}(hz:l=strW z):t=dec z.natAbs∧m=decide (z<0):=by
 unfold strW at hz
 by_cases hn:z<0
 · rw [if_pos hn]at hz;rcases h with ⟨h1,h2⟩|⟨h1,h2,h3⟩
   · rw [h2]at hz;exact⟨(List.cons.inj hz).2,by rw [h1];simpa using hn⟩
   · rw [hz]at h3;simp at h3
 · rw [if_neg hn]at hz;rcases h with ⟨h1,h2⟩|⟨h1,h2,h3⟩
   · rw [h2]at hz;exact absurd (show(45:UInt8)∈dec z.natAbs by rw [←hz];simp) (dec_no (by decide))
   · exact⟨by rw [←h2,hz],by rw [h1];simpa using hn⟩
theorem prel_empty{l:List UInt8}{m:Bool}(h:PRel l [] m):∀z,l≠strW z:=fun z hz=>dec_ne _ (prel_str h hz).1.symm
theorem prel_digs{l t:List UInt8}{m:Bool}(h:PRel l t m)(hd:¬Digs t):∀z,l≠strW z:=fun z hz=>hd ((prel_str h hz).1▸dec_digs _)
theorem prel_zero{l t:List UInt8}{m:Bool}(h:PRel l t m)(h0:t.head?=some 48)(h1:1<t.length∨m=true):∀z,l≠strW z:=by
 intro z hz
 obtain⟨e1,e2⟩:=prel_str h hz
 have hl:=(dec_lead z.natAbs).2 (e1▸h0)
 rw [←dec_zero]at hl
 have hz0:=dec_inj hl
 rcases h1 with h1|h1
 · rw [e1,hl,dec_zero]at h1;simp at h1
 · rw [e2]at h1;have:z<0:=by simpa using h1
   omega
theorem prel_good{l t:List UInt8}{m:Bool}(h:PRel l t m)(h0:t≠ [])(hd:Digs t)(h1:t.head?=some 48→t.length≤1∧m=false):l=strW (if m then -(dval t:Int)else dval t)∧(m=decide ((if m then -(dval t:Int)else dval t)<0)):=by
 have hlead:Lead t:=⟨h0,fun e=>by
  have:=(h1 e).1;match t,e,this with
  | [x],e,_=>simp at e;rw [e]⟩
 have hdec:=dec_of hd hlead
 unfold strW
 rcases h with ⟨rfl,h2⟩|⟨rfl,h2,h3⟩
 · have hp:0<dval t:=dval_pos hd hlead (fun e=>by rw [e]at h1;simp at h1);simp only [if_true];rw [if_pos (by omega),h2];refine⟨?_,by simp;omega⟩;rw [show (-(dval t:Int)).natAbs=dval t by omega,hdec]
 · simp only [Bool.false_eq_true,if_false];rw [if_neg (by omega),h2];refine⟨?_,by simp⟩;rw [show ((dval t:Int)).natAbs=dval t by omega,hdec]
def PaRel(w2:World)(t:List UInt8)(v6 v7:Value)(W:World):Prop :=
 ∃(e:Int) (Q:List Int),v7=.int .i64 e∧ -9<e∧e≤t.length∧Q++wordsOf (t.take e.toNat)=wordsOf t∧Kd.R (Kd.int .u32) 95 W w2.heap.size (fun _=>True) v6 Q∧Below w2.heap.size w2 W
theorem head48{t:List UInt8}{hp:0<(⟨t.toArray⟩:ByteArray).size}(h:(((⟨t.toArray⟩:ByteArray)[0]'hp).toNat:Int)=48):t.head?=some 48:=by
 cases t with
 | nil=>simp [ByteArray.size]at hp
 | cons c t' =>
  have:(⟨(c :: t').toArray⟩:ByteArray)[0]'hp=c:=rfl;rw [this]at h;rw [List.head?_cons,u8_eq (a:=c) (b:=48) (by show c.toNat=48;omega)]
theorem head48n{t:List UInt8}{hp:0<(⟨t.toArray⟩:ByteArray).size}(h:¬(((⟨t.toArray⟩:ByteArray)[0]'hp).toNat:Int)=48):t.head?≠some 48:=by
 cases t with
 | nil=>simp
 | cons c t' =>
  have:(⟨(c :: t').toArray⟩:ByteArray)[0]'hp=c:=rfl;rw [this]at h;intro e;simp at e
  subst e;exact h rfl
theorem dval_words{t:List UInt8}(h:Digs t){n:Nat}(hn:t.length≤n):dval t<1000000000^((n+8)/9):=by
 refine Nat.lt_of_lt_of_le (dval_lt h) ?_
 rw [show (1000000000:Nat)=10^9 by decide,←Nat.pow_mul]
 exact Nat.pow_le_pow_right (by decide) (by omega)
theorem words_step{t:List UInt8}{n:Nat}(hn:0<n)(hnt:n≤t.length)(Q:List Int):(Q++ [(dval ((t.take n).drop (n-9)):Int)])++wordsOf (t.take (n-9))=Q++wordsOf (t.take n):=by
 have h1:t.take n≠ []:=by
  intro e;have:=congrArg List.length e;rw [List.length_take,List.length_nil]at this;omega
 rw [wordsOf_ne h1,List.length_take,Nat.min_eq_left hnt,List.take_take,Nat.min_eq_left (by omega),List.append_assoc]
 rfl
theorem sub_list(t:List UInt8)(a b:Nat):((⟨t.toArray⟩:ByteArray).extract a b)=⟨((t.take b).drop a).toArray⟩:=by
 have h:=Lib.extract_data ⟨t.toArray⟩ a b
 have e:∀x y:ByteArray,x.data.toList=y.data.toList→x=y:=fun x y h=>by obtain⟨⟨lx⟩⟩:=x;obtain⟨⟨ly⟩⟩:=y;simp only at h;rw [h]
 apply e
 rw [h]
 simp only [List.drop_take]
section
variable {P:Nat→Prop} {K K':Nat} {w:World}
theorem c_Parse(l:List UInt8)(hl:l.length≤140737488351232)(hP:∀k,w.heap.size≤k→P k) :
 Calls Tryz.prog 102 #[Sg l] w (ParsePost P l w):=by
 have HP:=Lib.hid hP
 have HR:=Lib.hid (prel_of l)
 have hlt:(if l.head?=some 45 then l.tail else l).length≤l.length:=by
  split
  · simp
  · simp
 clear hP
 go_enter Tryz.func102,Tryz.ntmps102
 go_wp2_with fail
 refine(c_CutPrefix l _).mono ?_
 rintro e w1 ⟨rfl,rfl⟩
 generalize (if l.head?=some 45 then l.tail else l)=t at *
 generalize (decide (l.head?=some 45))=m at *
 unfold Sg
 by_cases ht:t= []
 · subst ht;go_wp2_with fail
   refine bodyPost_ret (v:=.tuple #[.agg #[.bool false,.slice none 0 0],.bool false]) (by simp [results,Tryz.results102,go_sem]) rfl (.inr ⟨prel_empty HR.out,rfl,?_⟩);exact blo
 · have htp:0<t.length:=List.length_pos_iff.2 ht;have hte:t.isEmpty=false:=by simpa using ht
   cases m;all_goals go_wp2_with fail
   all_goals (first
    | refine bodyPost_ret (v:=.tuple #[.agg #[.bool false,.slice none 0 0],.bool false]) (by simp [results,Tryz.results102,go_sem]) rfl (.inr ⟨prel_zero HR.out (head48 (by assumption)) (.inr rfl),rfl,blo⟩)
    | refine bodyPost_ret (v:=.tuple #[.agg #[.bool false,.slice none 0 0],.bool false]) (by simp [results,Tryz.results102,go_sem]) rfl (.inr ⟨prel_zero HR.out (head48 (by assumption)) (.inl (by omega)),rfl,blo⟩)
    | skip)
   all_goals (
    refine(c_Trim t _ (by omega)).mono ?_;rintro e w2 ⟨r,rfl,hr,hb2⟩;have HRR:=Lib.hid hr;clear hr;unfold Sg
    have HF:=Lib.hid (Fr.go (Fr.new1 (Fr.nil (Nat.le_refl w.heap.size)) (.bool false) (.slice none 0 0) 50) hb2);have HB2:=Lib.hid (show Below w.heap.size w w2 from blo);have f0:=HF.out.get 0 rfl;have f1:=HF.out.get 1 rfl;have g0:=HF.out.frz 0 rfl;have g1:=HF.out.frz 1 rfl;by_cases hd:Digs t
    · obtain rfl:=HRR.out.2 hd;clear HRR
      have hz:=prel_good HR.out (List.length_pos_iff.1 htp) hd (fun e=>by
       first
        | exact absurd e (head48n (by assumption))
        | exact⟨by omega,rfl⟩)
      have HZ:=Lib.hid hz;have HDG:=Lib.hid hd;have hw2:w.heap.size+1≤w2.heap.size:=HF.out.1;clear hz hd;go_wp2_with fail
      go_loopw [6,7] (fun v6 v7 W=>PaRel w2 t v6 v7 W) (fun _ e _=>(intOf e).toNat)
      case atStart =>
       exact⟨t.length,[],rfl,by omega,by omega,by simp,Kd.R_nil _ _ _ _ _,Below.refl _ _⟩
      case round =>
       obtain⟨e,Q,rfl,he1,he2,hQ,hR6,hb6⟩:=hrel;have HQ:=Lib.hid hQ;have HR6:=Lib.hid hR6;clear hQ hR6;by_cases he:0<e
       · obtain⟨n,rfl⟩:=Int.eq_ofNat_of_zero_le (Int.le_of_lt he);have hn:0<n:=by omega
         have hnt:n≤t.length:=by omega
         obtain⟨A6,c6,rfl⟩:=Kd.R_slice HR6.out;have hQ:=HQ.out;rw [Int.toNat_natCast]at hQ;have hQl:Q.length≤20000000000000:=by
          have h1:=congrArg List.length hQ;have h2:=(wordsOf_facts t.length t rfl HDG.out).2.2;rw [List.length_append]at h1;omega
         have HQ2:=Lib.hid hQ;clear hQ HQ;have hs:(⟨t.toArray⟩:ByteArray).extract (max ((n:Int)-9) 0).toNat n=⟨((t.take n).drop (n-9)).toArray⟩:=by
          rw [show (max ((n:Int)-9) 0).toNat=n-9 by omega];exact sub_list _ _ _
         obtain⟨d,hd⟩:∃d,d=(t.take n).drop (n-9):=⟨_,rfl⟩;rw [←hd]at hs;have hdl:d.length≤9:=by rw [hd,List.length_drop,List.length_take];omega
         have hdd:Digs d:=by rw [hd];exact digs_dropn (digs_take HDG.out _) _
         have HS:=Lib.hid hs;have HD:=Lib.hid hd;have HDD:=Lib.hid hdd;clear hs hd hdd;go_wp2_with fail
         rw [HS.out];have HSZ:=Lib.hid (size_mk d);go_loopw [8] (fun v8 W=>∃pos:Nat,pos≤d.length∧W=wr.iter ⟨d.toArray⟩ pos∧v8=.int .u32 (dval (d.take pos):Int)) (fun _ W=>d.length-W.iterPos wr.heap.size)
         case atStart=>exact ⟨0,Nat.zero_le _,rfl,rfl⟩
         case round =>
          obtain⟨pos,hpos,rfl,rfl⟩:=hrel;by_cases hp:pos<d.length
          · obtain⟨c,hc⟩:∃c:Int,c=((d[pos]'hp).toNat:Int):=⟨_,rfl⟩;have hcb:=HDD.out (d[pos]'hp) (List.getElem_mem hp);have hc1:48≤c:=by omega
            have hc2:c≤57:=by omega
            have hv:dval (d.take pos)<100000000:=Nat.lt_of_lt_of_le (dval_lt (digs_take HDD.out pos)) (Nat.le_trans (Nat.pow_le_pow_right (by decide) (show(d.take pos).length≤8 by rw [List.length_take];omega)) (by decide));have hsn:dval (d.take (pos+1))=10*dval (d.take pos)+((d[pos]'hp).toNat-48):=by
             rw [List.take_succ_eq_append_getElem hp,dval_snoc]
            have hnx:∀ty,(Instr.next (.pointer (some ⟨wr.heap.size,0,none⟩)) true ty).run Tryz.prog (wr.iter ⟨d.toArray⟩ pos)=.ok (.tuple #[.bool true,.int .i64 pos,.int .i32 c]) (wr.iter ⟨d.toArray⟩ (pos+1)):=fun ty=>by
             rw [hc];exact run_next_ascii wr ⟨d.toArray⟩ pos ty (by rw [HSZ.out];exact hp) (by show(d[pos]'hp).toNat<128;omega)
            generalize hvv:dval (d.take pos)=v at *
            have HSN:=Lib.hid hsn;have HC:=Lib.hid hc;have HV:=Lib.hid hvv;clear hsn hc hvv hcb;go_wp2_with fail
            go_roundw
            case rel=>exact ⟨pos+1,hp,rfl,by rw [HSN.out];have:=HC.out;congr 1;omega⟩
            case measure=>simp;omega
          · have hnx:∀ty,(Instr.next (.pointer (some ⟨wr.heap.size,0,none⟩)) true ty).run Tryz.prog (wr.iter ⟨d.toArray⟩ pos)=.ok (.tuple #[.bool false]) (wr.iter ⟨d.toArray⟩ pos):=fun ty=>run_next_end wr ⟨d.toArray⟩ pos ty (by rw [HSZ.out];exact hp)
            have hpe:d.take pos=d:=List.take_of_length_le (by omega);rw [hpe];have HV:=Lib.hid (show dval d<1000000000 from Nat.lt_of_lt_of_le (dval_lt HDD.out) (Nat.le_trans (Nat.pow_le_pow_right (by decide) hdl) (by decide)));clear hpe;have HB6:=Lib.hid (show Below w2.heap.size w2 (wr.iter ⟨d.toArray⟩ pos)from hb6.alloc hb6.size _);have HR6i:=Lib.hid (show Kd.R (Kd.int .u32) 95 (wr.iter ⟨d.toArray⟩ pos) w2.heap.size (fun _=>True) (.slice A6 Q.length c6) Q from Kd.R_below HR6.out ((Below.refl _ _).alloc (Nat.le_refl _) _));go_wp2_with (at_builtin;go_must (refine Kd.R_append (Kd.int .u32) (w0:=w2) w2.heap.size rfl (.tmp 59) (.tmp 61) 48 95 (.int .u32 0) 4 rfl Tryz.underlying48 infoU32 rfl (by decide) (by decide) (.slice A6 Q.length c6) Q (dval d:Int) [.int .u32 (dval d:Int)] (fun _=>True) (fun _=>False) rfl rfl rfl (fun _ hk=>hk.elim) (fun _ _=>trivial) HR6i.out HB6.out HB6.out.size (by omega) ?_);intro v9 w9 hr9 hb9 hg9 hat9;have HR9:=Lib.hid hr9;have HB9:=Lib.hid hb9;clear hr9 hb9 hg9 hat9)
            go_roundw
            case rel =>
             refine⟨(n:Int)-9,Q++ [(dval d:Int)],rfl,by omega,by omega,?_,HR9.out,HB9.out⟩;rw [HD.out,show ((n:Int)-9).toNat=n-9 by omega,words_step hn hnt];exact HQ2.out
            case measure=>simp [intOf];omega
       · go_wp2_with fail
         have e0:t.take e.toNat= []:=by rw [show e.toNat=0 by omega];rfl
         have hQ:=HQ.out;rw [e0,wordsOf_nil,List.append_nil]at hQ;subst hQ;obtain⟨f1,f2,f3⟩:=wordsOf_facts t.length t rfl HDG.out;obtain⟨A6,c6,rfl⟩:=Kd.R_slice HR6.out;have HF6:=Lib.hid (HF.out.go hb6);have f0':=HF6.out.get 0 rfl;have f1':=HF6.out.get 1 rfl;have g0':=HF6.out.frz 0 rfl;have g1':=HF6.out.frz 1 rfl;have HB6:=Lib.hid (show Below w.heap.size w wr from bl_call HB2.out hb6);have hwr:w.heap.size+1≤wr.heap.size:=HF6.out.1;have HZ2:=Lib.hid HZ.out.1;have hzm:=HZ.out.2;refine(c_signed (P:=Ex P w.heap.size) (K:=(l.length+8)/9) _ (Kd.V_mono (Kd.R_V (Kd.R_bound HR6.out)) (fun k hk=>⟨HP.out k (by omega),by omega⟩)) (by omega) f1 _ (by rw [f2];split <;> omega) (.inl hzm) (Nat.lt_of_le_of_lt (by split <;> omega) (dval_words HDG.out hlt)) (ex_fresh HP.out HB6.out (by omega))).mono ?_;rintro e w8 ⟨x,rfl,hx,hb8⟩;have HX:=Lib.hid hx;clear hx hzm f1 f2 f3;have q0:=(HF6.out.go hb8).get 0 rfl;have q1:=(HF6.out.go hb8).get 1 rfl;have r0:=(HF6.out.go hb8).frz 0 rfl;have r1:=(HF6.out.go hb8).frz 1 rfl;go_wp2_with fail
         refine bodyPost_ret (v:=.tuple #[.agg #[.bool x.b,.slice x.A x.n x.c],.bool true]) (by simp [results,Tryz.results102,go_sem,q0,q1]) rfl (.inl ⟨_,x,HZ2.out,rfl,((HX.out.set _ _).set _ _).out,?_⟩);have HB6:=HB6.out;exact blo
    · have hrn:r≠ []:=fun e=>hd (HRR.out.1 e)
      obtain⟨y,r',rfl⟩:∃c t',r=c :: t':=by
       cases r with
       | nil=>exact absurd rfl hrn
       | cons c t'=>exact ⟨c,t',rfl⟩
      have HD:=Lib.hid hd;clear hd hrn HRR;go_wp2_with fail
      refine bodyPost_ret (v:=.tuple #[.agg #[.bool false,.slice none 0 0],.bool false]) (by simp [results,Tryz.results102,go_sem,f0,f1]) rfl (.inr ⟨prel_digs HR.out HD.out,rfl,blo⟩))
end
end Go.Proofs.YtpdghgfbfmaplaaGreatDoor.Wh
end
