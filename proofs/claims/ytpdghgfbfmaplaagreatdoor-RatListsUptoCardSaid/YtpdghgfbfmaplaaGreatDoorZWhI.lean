/- Lemmas for RatLists. -/
import Derived.Test.YtpdghgfbfmaplaaGreatDoorQH
import Derived.Deep.AppendSrc
import Derived.Deep.Upon
set_option maxRecDepth 100000
set_option maxHeartbeats 8000000
section
set_option linter.unusedVariables false
namespace Go.Proofs.YtpdghgfbfmaplaaGreatDoor.Wh
open Go.RowKit Go.Proofs.YtpdghgfbfmaplaaGreatDoorW.PrintWords Go.Proofs.YtpdghgfbfmaplaaGreatDoor.Num Go.Proofs.YtpdghgfbfmaplaaGreatDoor.PWhole Go.Proofs.YtpdghgfbfmaplaaGreatDoor.WhC
theorem sl_cells{P:Nat→Prop}{w:World}{A:Option Addr}{c:Nat}{l:List Int}(h:Sl P w (.slice A l.length c) l) :
 l= []∨∃ad,A=some ad∧∀j v,(l.map (Value.int .u32))[j]?=some v→w.cell? (ad.add j)=some v:=by
 obtain⟨_,_,_,_,hr⟩:=Kd.V_reads' h
 by_cases hl:l= []
 · exact .inl hl
 · right
   obtain⟨ad,e,hc⟩:=hr (List.length_pos_iff.2 hl);refine⟨ad,e,fun j v hj=>?_⟩;rw [List.getElem?_map]at hj;cases hx:l[j]? with
   | none=>rw [hx]at hj;cases hj
   | some x =>
    rw [hx]at hj;injection hj with hj
    subst hj;obtain⟨cs,h1,h2,h3⟩:=hc j x hx;have h2':cs= [Value.int .u32 x]:=h2;subst h2';have:=h3 0 (.int .u32 x) rfl;have e1:j*(Kd.int .u32).sz+0=j:=by show j*1+0=j;omega
    rwa [e1]at this
theorem run_append_full{P:Nat→Prop}{w:World}{A A':Option Addr}{c':Nat}{xs ys:List Int}(hx:Sl P w (.slice A xs.length xs.length) xs)(hy:Sl P w (.slice A' ys.length c') ys)(hl:xs.length+ys.length≤20000000000010)(hP:∀k,w.heap.size≤k→P k) :
 ∃(A2:Option Addr) (c2:Nat) (w2:World),(Builtin.append_ #[48,48] 48 #[.slice A xs.length xs.length,.slice A' ys.length c']).run Tryz.prog w=.ok (.slice A2 (xs++ys).length c2) w2∧Sl P w2 (.slice A2 (xs++ys).length c2) (xs++ys)∧Below w.heap.size w w2:=by
 obtain⟨i0,hi,hz0,hz1,hz2⟩:=info_parts infoU32
 have hsrc:Src Tryz.prog i0.size 48 (.slice A' ys.length c') ys.length (ys.map (Value.int .u32)) w:=by
  rcases sl_cells hy with rfl|⟨ad,rfl,hc⟩
  · cases A' with
    | none=>exact Src.ofNil w Tryz.underlying48 c'
    | some ad=>exact Src.ofSlice w Tryz.underlying48 ad _ c' _ (by simp) (fun j u h=>by cases h) (fun u h=>by cases h)
  · exact Src.ofSlice w Tryz.underlying48 ad _ c' _ (by simp [hz1]) hc (fun u hu=>by obtain⟨x,_,rfl⟩:=List.mem_map.1 hu;rfl)
 by_cases hm:ys= []
 · subst hm;refine⟨A,xs.length,w,?_,by simpa using hx,Below.refl _ _⟩;have:=run_append_nothing (P:=Tryz.prog) w 48 48 48 95 i0 Tryz.underlying48 hi A xs.length xs.length (Nat.le_refl _) _ hsrc;simpa using this
 · have hm0:0<ys.length:=List.length_pos_iff.2 hm;have hold:(Builtin.firstCells i0.size xs.length (.slice A xs.length xs.length)).run Tryz.prog w.drew=.ok (xs.map (Value.int .u32)).toArray w.drew:=by
    rcases sl_cells hx with rfl|⟨ad,rfl,hc⟩
    · cases A with
      | none=>exact run_firstCells_none _ _ _ _ _
      | some ad=>exact run_firstCells_some w.drew i0.size 0 ad 0 0 [] (by simp) (fun j u h=>by cases h)
    · exact run_firstCells_some w.drew i0.size xs.length ad _ _ _ (by simp [hz1]) hc
   have hrun:=run_append_grow_src (P:=Tryz.prog) w 48 48 48 95 i0 _ Tryz.underlying48 hi hz0 A xs.length xs.length _ hold _ ys.length _ hsrc (by omega) (by omega)
    (growslice_fits (by omega) (by rw [hz2];omega))
   refine⟨some ⟨w.heap.size,0,none⟩,grownCap w (xs.length+ys.length) xs.length 95,_,by rw [List.length_append];exact hrun,?_,(Below.refl w.heap.size w).drew.alloc (by simp) _⟩;have hge:=grownCap_ge w (xs.length+ys.length) xs.length 95;have hcm:=grownCap_le_maxLen w (xs.length+ys.length) xs.length 95 (by unfold maxLen;omega);have hR:Kd.R (Kd.int .u32) 95 (w.drew.alloc (.cells ((xs.map (Value.int .u32)++ys.map (Value.int .u32)).toArray++Builtin.zeroCells (Value.int .u32 0).cells (grownCap w (xs.length+ys.length) xs.length 95-(xs.length+ys.length))) 95)) w.heap.size (fun k=>w.heap.size≤k) (.slice (some ⟨w.heap.size,0,none⟩) (xs++ys).length (grownCap w (xs.length+ys.length) xs.length 95)) (xs++ys):=by
    refine⟨fun k hk=>by (have:w.heap.size=k:=by simpa [Value.ownBlock]using hk);omega,(xs++ys).map (Value.int .u32),⟨by simp;exact(Nat.mul_one _).symm,.inr ⟨w.heap.size,_,_,rfl,Nat.le_refl _,heap_alloc_new w.drew _,by rw [List.length_append];exact hge,hcm,?_,?_⟩⟩,?_⟩
    · show _=_*1
      have e1:(Value.int IntKind.u32 0).cells.size=1:=rfl;simp [Builtin.zeroCells,e1]
      omega
    · show List.take (_*1) _=_
      rw [Nat.mul_one,Array.toList_append,List.map_append,List.take_append_of_le_length (by simp)];rw [List.take_of_length_le (by simp)]
    · refine⟨by simp;exact(Nat.mul_one _).symm,fun j p hj=>?_⟩;show((List.drop (j*1) _).take 1)= [Value.int .u32 p]
      rw [Nat.mul_one,←List.map_drop,←List.map_take];have hj2:j<(xs++ys).length:=(List.getElem?_eq_some_iff.1 hj).1;rw [List.drop_eq_getElem_cons hj2];have:(xs++ys)[j]=p:=(List.getElem?_eq_some_iff.1 hj).2;simp [this]
   exact Kd.V_mono (Kd.R_V hR) (fun k hk=>hP k hk)
theorem step_append_full{P:Nat→Prop}{w:World}{ops:Array Oper}{o:Oper}{a:Act}{Kc:Act→World→Prop}{Q:Exit→Act→World→Prop}{E:Prop}(hgd:o.guard=none)(s x:Operand)
 (ho:o.op=.call { callee:=.builtin .append,args:= #[s,x],argTypes:= #[48,48] }) (hty:o.type=48) {A A':Option Addr} {c':Nat} {xs ys:List Int} (hs:a.eval s=.slice A xs.length xs.length) (hx':a.eval x=.slice A' ys.length c')
 (hx:Sl P w (.slice A xs.length xs.length) xs) (hy:Sl P w (.slice A' ys.length c') ys) (hl:xs.length+ys.length≤20000000000010) (hP:∀k,w.heap.size≤k→P k)
 (h:∀(A2:Option Addr) (c2:Nat) (w2:World),Sl P w2 (.slice A2 (xs++ys).length c2) (xs++ys)→Below w.heap.size w w2→Kc (a.put o.dst (.slice A2 (xs++ys).length c2)) w2) :
 if Region.wanted o (yielded ops a.tmps)=true then Oper.wp Tryz.prog o a w Kc Q else E:=by
 have hw:Region.wanted o (yielded ops a.tmps)=true:=by simp [Region.wanted,hgd]
 rw [if_pos hw]
 obtain⟨A2,c2,w2,hr,h1,h2⟩:=run_append_full hx hy hl hP
 unfold Oper.wp execOp
 simp only [ho,hty,resolve,invoke,builtin,Sem.run_bind,Sem.run_pure,Result.andThen_ok,List.map_toArray,List.map_cons,List.map_nil,hs,hx',hr]
 exact h A2 c2 w2 h1 h2
theorem sl_drop{P:Nat→Prop}{w:World}{A:Option Addr}{c:Nat}{l:List Int}(h:Sl P w (.slice A l.length c) l)(i:Nat)(hi:i≤l.length) :
 ∃(A1:Option Addr) (c1:Nat),Sl P w (.slice A1 (l.drop i).length c1) (l.drop i)∧∀W:World,(Instr.slice 48 (.slice A l.length c) (some (.int .i64 (i:Int))) none none).run Tryz.prog W=.ok (.slice A1 (l.drop i).length c1) W:=by
 obtain⟨i0,hi0,hz0,hz1,hz2⟩:=info_parts infoU32
 obtain⟨_,hc,hF⟩:=Kd.V_at h
 refine⟨if c=i then A else A.map (·.add (i*1)),c-i,Kd.V_mk (by simp;omega) (Kd.F_cut hF hi hc),fun W=>?_⟩
 have:=cut_from (P:=Tryz.prog) 48 95 .i64 Tryz.underlying48 hi0 1 hz1 A l.length c (i:Int) (by omega) (by omega) W
 rw [List.length_drop]
 simpa using this
theorem sl_take{P:Nat→Prop}{w:World}{A:Option Addr}{c:Nat}{l:List Int}(h:Sl P w (.slice A l.length c) l)(i:Nat)(hi:i≤l.length) :
 Sl P w (.slice A (l.take i).length (l.take i).length) (l.take i)∧∀W:World,(Instr.slice 48 (.slice A l.length c) none (some (.int .i64 (i:Int))) (some (.int .i64 (i:Int)))).run Tryz.prog W=.ok (.slice A (l.take i).length (l.take i).length) W:=by
 obtain⟨i0,hi0,hz0,hz1,hz2⟩:=info_parts infoU32
 obtain⟨_,hc,hF⟩:=Kd.V_at h
 refine⟨Kd.V_mk (Nat.le_refl _) (Kd.F_take hF hi),fun W=>?_⟩
 have e:(l.take i).length=i:=by simp;omega
 rw [e]
 have hel:Tryz.prog.elem 48=95:=by simp [Program.elem,Tryz.underlying48]
 have hu:Tryz.prog.underlying 48=some (.slice (Tryz.prog.elem 48)):=by rw [hel];exact Tryz.underlying48
 have ha:(A.map fun x=>x.add 0)=A:=by cases A <;> simp [Addr.add]
 rw [run_slice_hm W 48 A l.length c hu .i64 .i64 (i:Int) (i:Int) (by omega) (by omega) (by omega),hel]
 simp [sizeOf,typeInfo,hi0,sliced,Result.andThen,ha]
structure DivInv (r0:List Int) (bv:Int) (n i:Nat) (R Q:List Int):Prop where
 dR:Dg B R
 dQ:Dg B Q
 le:i≤R.length
 len:R.length≤i+n+1
 low:R.take i=r0.take i
 pos:0≤val B (R.drop i)
 lt:val B (R.drop i)<bv
 tot:val B r0=val B Q.reverse*bv*B^i+val B (R.drop i)*B^i+val B (r0.take i)
 qlen:Q.length+i≤r0.length
theorem DivInv.part{r0 R Q:List Int}{bv:Int}{n i:Nat}(h:DivInv r0 bv n (i+1) R Q):0≤val B (R.drop i)∧val B (R.drop i)<B*bv∧val B (R.drop i)=at0 r0 i+B*val B (R.drop (i+1)):=by
 have hle:=h.le
 have e:R.drop i=at0 R i :: R.drop (i+1):=by rw [List.drop_eq_getElem_cons (by omega),at0_lt (by omega)]
 have e2:at0 R i=at0 r0 i:=by
  have:=congrArg (fun l=>at0 l i) h.low;simp only [at0,List.getD_eq_getElem?_getD,List.getElem?_take]at this;rw [if_pos (by omega),if_pos (by omega)]at this;simpa [at0,List.getD_eq_getElem?_getD]using this
 have hb:=dgbd h.dR i
 have h1:=h.pos
 have h2:=h.lt
 rw [e]
 simp only [val]
 rw [←e2]
 generalize val B (R.drop (i+1))=H at *
 generalize at0 R i=x at *
 refine⟨?_,?_,rfl⟩
 · show 0≤x+1000000000*H;omega
 · show x+1000000000*H<1000000000*bv;omega
theorem DivInv.step{r0 R Q d:List Int}{bv q:Int}{n i:Nat}(h:DivInv r0 bv n (i+1) R Q)(hd:Dg B d)(hq:0≤q∧q<1000000000)(hv:val B d=val B (R.drop i)-bv*q)(h0:bv*q≤val B (R.drop i))(h1:val B (R.drop i)<(q+1)*bv)(hl:d.length≤n+1) :
 DivInv r0 bv n i (R.take i++d) (Q++ [q]):=by
 have hle:=h.le
 have hp:=h.part
 have el:(R.take i).length=i:=by simp;omega
 have ed:(R.take i++d).drop i=d:=by rw [List.drop_append_of_le_length (by omega),List.drop_of_length_le (by omega)];rfl
 have et:(R.take i++d).take i=R.take i:=by rw [List.take_append_of_le_length (by omega),List.take_of_length_le (by omega)]
 refine⟨by rw [Dg_append];exact⟨h.dR.take i,hd⟩,?_,by rw [List.length_append,el];omega,by rw [List.length_append,el];omega,?_,?_,?_,?_,?_⟩
 · rw [Dg_append];exact⟨h.dQ,by intro x hx;simp at hx;subst hx;exact hq⟩
 · rw [et];have:=congrArg (List.take i) h.low;rw [List.take_take,List.take_take,Nat.min_eq_left (by omega)]at this;exact this
 · rw [ed,hv];omega
 · rw [ed,hv];have e:(q+1)*bv=bv*q+bv:=by grind
   omega
 · rw [ed,hv,h.tot,List.reverse_append];have et2:=val_take_succ B r0 i;rw [et2,hp.2.2,Int.pow_succ];simp only [List.reverse_cons,List.reverse_nil,List.nil_append,List.singleton_append,val];generalize val B Q.reverse=V at *
   generalize val B (R.drop (i+1))=H at *
   generalize B^i=X at *
   grind
 · have:=h.qlen;rw [List.length_append,List.length_singleton];omega
theorem DivInv.fin{r0 R Q:List Int}{bv:Int}{n:Nat}(h:DivInv r0 bv n 0 R Q):val B r0=val B Q.reverse*bv+val B R∧0≤val B R∧val B R<bv:=by
 have h1:=h.tot
 have h2:=h.pos
 have h3:=h.lt
 simp only [List.drop_zero,List.take_zero,Int.pow_zero,Int.mul_one,val,Int.add_zero]at h1 h2 h3
 exact⟨h1,h2,h3⟩
theorem DivInv.start{r0 by_:List Int}{bv:Int}(hb:Rep B by_ bv)(hpos:0<bv)(hd:Dg B r0)(hl:by_.length≤r0.length):DivInv r0 bv by_.length (r0.length-by_.length+1) r0 []:=by
 have hB:(0:Int)<B:=by decide
 have hb0:0<by_.length:=by
  rcases Nat.eq_zero_or_pos by_.length with h|h
  · have:by_= []:=List.length_eq_zero_iff.1 h;subst this;have:=hb.2.2;simp [val]at this;omega
  · exact h
 have hlt:val B (r0.drop (r0.length-by_.length+1))<bv:=by
  have h1:=val_lt hB (hd.drop (r0.length-by_.length+1));rw [List.length_drop]at h1;have h2:=val_ge_of_Nm hB hb.1 hb.2.1 (by intro e;subst e;simp at hb0);rw [hb.2.2]at h2;have h3:B^(r0.length-(r0.length-by_.length+1))≤B^(by_.length-1):=pow_mono (by decide) (by omega);omega
 refine⟨hd,Dg.nil _,by omega,by omega,rfl,val_nonneg hB (hd.drop _),hlt,?_,by simp;omega⟩
 have:=val_take_drop B r0 (r0.length-by_.length+1) (by omega)
 simp only [List.reverse_nil,val]
 rw [this]
 grind
end Go.Proofs.YtpdghgfbfmaplaaGreatDoor.Wh
end
