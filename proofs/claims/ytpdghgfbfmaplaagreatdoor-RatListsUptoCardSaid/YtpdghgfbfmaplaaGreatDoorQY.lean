/- Theorems whose last argument bears a tactic that is used often. -/
import Derived.Tactics
import Derived.KernelRfl
namespace Go.Proofs.YtpdghgfbfmaplaaGreatDoor
theorem nw{p q:Prop}(h:q)(e:p=q:=by ((try simp only [Act.put,List.getElem_toArray,List.getElem_cons_zero,List.getElem_cons_succ,List.setIfInBounds_toArray,List.set_cons_zero,List.set_cons_succ]);first|done|rfl)):p:=e.mpr h
theorem nv{p q:Prop}(h:q)(e:p=q:=by (simp only [List.getElem_toArray,List.getElem_cons_zero,List.getElem_cons_succ];first|done|rfl)):p:=e.mpr h
theorem pb{p:Prop}(h:p:=by repeat (first|(with_reducible first|exact HB.out|apply below_alloc|apply pw_below_drewN|apply below_drew1)|exact HB.out)):p:=h
theorem pr1{p:Prop}(h:p:=by first|rfl|(simp;done)|(simp [*];done)):p:=h
theorem pr2{p:Prop}(h:p:=by first|rfl|(simp [errW_none,errW_some] <;> rfl)|(simp [*,errW_none,errW_some] <;> rfl)):p:=h
theorem frq{p:Prop}(h:p:=by (repeat refine Fr.cons ?_ (by omega) (by go_simp) (by go_simp));exact Fr.nil (by simp)):p:=h
theorem pr3{p:Prop}(h:p:=by first|rfl|(simp <;> fail)|(simp;omega)):p:=h
theorem rq{p q:Prop}(x:p)(e:p→q:=by intro x_;(with_reducible repeat (first|apply Kd.R_alloc|apply Kd.R_drewN|apply Kd.R_drew));exact x_):q:=e x
theorem rbk{p q:Prop}(x:p)(e:p→q:=by intro x_;(with_reducible repeat (first|refine blk_drewN ?_ _|refine blk_drew ?_|refine blk_alloc ?_ _));exact x_):q:=e x
theorem oda{p:Prop}[Decidable p](h:decide p=true:=by first|(with_reducible assumption)|assumption):p:=of_decide_eq_true h
theorem ry{A:Type}{a b:A}{p q:Prop}(hy:a=b)(H:p)(e:a=b→p→q:=by intro hy_ H_;first|(rw [hy_];with_reducible exact H_)|(have H2_:=(Option.bind_some _ _).symm.trans H_;rw [hy_];with_reducible exact H2_)|(have H2_:=(Option.bind_some _ _).symm.trans H_;with_reducible exact H2_)|with_reducible exact H_|(rw [hy_];exact H_)|exact H_):q:=e hy H
theorem ifs{A:Type}{c:Prop}[Decidable c]{a:Option A}{x:A}(H:(if c then a else none)=some x):c∧a=some x:=by
  by_cases h:c
  · exact⟨h,by rw [if_pos h]at H;exact H⟩
  · rw [if_neg h]at H;cases H
theorem gx0{p:Prop}(h:p:=by ((repeat' (first|with_reducible assumption|(with_reducible refine cell_hit (by(repeat' (first|with_reducible assumption|(with_reducible refine cell_par01 ?_)|(with_reducible refine cell_par10 ?_)|(with_reducible refine cell_far ?_ (by(first|(simp <;> fail)|omega|(simp;omega))))|(with_reducible refine cell_new0 pr3)|(with_reducible refine cell_new1 pr3)|(with_reducible refine cell_old ?_ (by(first|(simp <;> fail)|omega|(simp;omega))))|rw [World.cell?_drew]|(with_reducible refine cell_below (by with_reducible assumption) (by(first|(simp <;> fail)|omega|(simp;omega))) ?_)|fail))))|(with_reducible refine cell_par01 ?_)|(with_reducible refine cell_par10 ?_)|(with_reducible refine cell_far ?_ (by(first|(simp <;> fail)|omega|(simp;omega))))|(with_reducible refine cell_new0 pr3)|(with_reducible refine cell_new1 pr3)|(with_reducible refine cell_old ?_ (by(first|(simp <;> fail)|omega|(simp;omega))))|rw [World.cell?_drew]|(with_reducible refine cell_below (by with_reducible assumption) (by(first|(simp <;> fail)|omega|(simp;omega))) ?_)|fail));first|done|fail)):p:=h
theorem gx1{p:Prop}(h:p:=by ((repeat' (first|with_reducible assumption|(with_reducible refine froz_set ?_)|(with_reducible refine froz_old ?_ (by(first|(simp <;> fail)|omega|(simp;omega))))|rw [World.frozen?_drew]|(with_reducible refine froz_new pr3)|(with_reducible refine froz_below (by with_reducible assumption) (by(first|(simp <;> fail)|omega|(simp;omega))) ?_)|fail));first|done|fail)):p:=h
theorem lt1{a b:Nat}(h:a+1≤b):a<b:=h
theorem lt2{a b:Nat}(h:a+1+1≤b):a<b∧a+1<b:=⟨by omega,h⟩
theorem lt3{a b:Nat}(h:a+1+1+1≤b):a<b∧a+1<b∧a+1+1<b:=⟨by omega,by omega,h⟩
theorem lt4{a b:Nat}(h:a+1+1+1+1≤b):a<b∧a+1<b∧a+1+1<b∧a+1+1+1<b:=⟨by omega,by omega,by omega,h⟩
end Go.Proofs.YtpdghgfbfmaplaaGreatDoor
