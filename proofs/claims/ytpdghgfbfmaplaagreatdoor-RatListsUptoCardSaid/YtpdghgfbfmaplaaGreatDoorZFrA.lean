/- Lemmas for RatLists. -/
import Derived.Test.YtpdghgfbfmaplaaGreatDoorZWhL
import Derived.Test.YtpdghgfbfmaplaaGreatDoorZWhS
import Derived.Test.YtpdghgfbfmaplaaGreatDoorZWhP
set_option maxRecDepth 100000
set_option maxHeartbeats 8000000
section
set_option linter.unusedVariables false
namespace Go.Proofs.YtpdghgfbfmaplaaGreatDoor.Wh
open Go.RowKit Go.Proofs.YtpdghgfbfmaplaaGreatDoor.Num Go.Proofs.YtpdghgfbfmaplaaGreatDoor.Dec Go.Proofs.YtpdghgfbfmaplaaGreatDoorW.PrintWords
structure FV where
 num:WV
 den:WV
def IsF(P:Nat→Prop)(K:Nat)(w:World)(x:FV)(q:Rat):Prop:=IsW P K w x.num q.num∧IsW P K w x.den (q.den:Int)
section
variable {P P':Nat→Prop} {K K' s n:Nat} {w W W1:World} {x:FV} {q:Rat}
theorem IsF.hn(h:IsF P K w x q):IsW P K w x.num q.num:=h.1
theorem IsF.hd(h:IsF P K w x q):IsW P K w x.den (q.den:Int):=h.2
theorem IsF.below(h:IsF P K w x q)(hb:Below w.heap.size w W1):IsF P K W1 x q:=⟨h.1.below hb,h.2.below hb⟩
theorem IsF.mono(h:IsF P K w x q)(hP:∀k,P k→P' k):IsF P' K w x q:=⟨h.1.mono hP,h.2.mono hP⟩
theorem IsF.wide(h:IsF P K w x q)(hK:K≤K'):IsF P K' w x q:=⟨h.1.wide hK,h.2.wide hK⟩
theorem IsF.gap(h:IsF P K w x q)(n:Nat):IsF (Gp P w.heap.size n) K w x q:=⟨h.1.gap n,h.2.gap n⟩
theorem IsF.ungap(h:IsF (Gp P s n) K w x q):IsF P K w x q:=⟨h.1.ungap,h.2.ungap⟩
theorem IsF.put(h:IsF (Gp P s n) K w x q){p:Addr}(u:Value)(h1:s≤p.block)(h2:p.block<s+n):IsF (Gp P s n) K (w.setCell p u) x q:=⟨h.1.put u h1 h2,h.2.put u h1 h2⟩
theorem IsF.alc(h:IsF P K w x q){o:Obj}:IsF P K (w.alloc o) x q:=⟨h.1.alc,h.2.alc⟩
theorem IsF.drw(h:IsF P K w x q):IsF P K w.drew x q:=⟨h.1.drw,h.2.drw⟩
theorem IsF.bdn(h:IsF P K w x q):q.num.natAbs<1000000000^K:=h.1.bd
theorem IsF.bdd(h:IsF P K w x q):q.den<1000000000^K:=by have:=h.2.bd;simpa using this
theorem IsF.tight(h:IsF P K w x q)(h1:q.num.natAbs<1000000000^K')(h2:q.den<1000000000^K'):IsF P K' w x q:=⟨h.1.tight h1,h.2.tight (by simpa using h2)⟩
end
theorem divInt_parts{z u:Int}(hu:u≠0):(Rat.divInt z u).num=(u.sign*z)/(Int.gcd z u:Int)∧((Rat.divInt z u).den:Int)=(u.natAbs:Int)/(Int.gcd z u:Int):=by
 rw [Rat.num_divInt,Rat.den_divInt,if_neg hu,Int.gcd_comm u z]
 exact⟨rfl,Int.natCast_ediv _ _⟩
theorem divInt_pos{z u:Int}(hu:0<u):(Rat.divInt z u).num=z/(Int.gcd z u:Int)∧((Rat.divInt z u).den:Int)=u/(Int.gcd z u:Int):=by
 have h:=divInt_parts (z:=z) (u:=u) (by omega)
 rw [Int.sign_eq_one_of_pos hu,Int.one_mul]at h
 rw [show (u.natAbs:Int)=u by omega]at h
 exact h
theorem divInt_neg{z u:Int}:Rat.divInt (-z) (-u)=Rat.divInt z u:=by
 by_cases hu:u=0
 · subst hu;simp
 · apply Rat.ext
   · rw [Rat.num_divInt,Rat.num_divInt,Int.sign_neg,Int.gcd_neg,Int.neg_gcd,Int.neg_mul_neg]
   · rw [Rat.den_divInt,Rat.den_divInt,if_neg hu,if_neg (by omega),Int.gcd_neg,Int.neg_gcd,Int.natAbs_neg]
theorem den_pos(q:Rat):(0:Int)<q.den:=by have:=q.den_nz;omega
theorem add_divInt(a b:Rat):Rat.divInt (a.num*b.den+b.num*a.den) (a.den*b.den)=a+b:=by
 have h1:=den_pos a
 have h2:=den_pos b
 rw [←Rat.divInt_add_divInt _ _ (by omega) (by omega),Rat.num_divInt_den,Rat.num_divInt_den]
theorem mul_divInt(a b:Rat):Rat.divInt (a.num*b.num) (a.den*b.den)=a*b:=by
 rw [←Rat.divInt_mul_divInt,Rat.num_divInt_den,Rat.num_divInt_den]
theorem div_divInt(a b:Rat):Rat.divInt (a.num*b.den) (a.den*b.num)=a/b:=by
 rw [Rat.div_def,Rat.inv_def,←Rat.divInt_mul_divInt,Rat.num_divInt_den]
theorem rat_int{q:Rat}(h:q.den=1):q=(q.num:Rat):=Rat.ext rfl h
theorem add_int{a b:Rat}(ha:a.den=1)(hb:b.den=1):(a+b).num=a.num+b.num∧(a+b).den=1:=by
 rw [rat_int ha,rat_int hb,←Rat.intCast_add]
 exact⟨rfl,rfl⟩
theorem mul_int{a b:Rat}(ha:a.den=1)(hb:b.den=1):(a*b).num=a.num*b.num∧(a*b).den=1:=by
 rw [rat_int ha,rat_int hb,←Rat.intCast_mul]
 exact⟨rfl,rfl⟩
theorem gcd_le{z u:Int}(hu:u≠0):(z/(Int.gcd z u:Int)).natAbs≤z.natAbs∧(u/(Int.gcd z u:Int)).natAbs≤u.natAbs:=by
 have hg:0<Int.gcd z u:=Int.gcd_pos_of_ne_zero_right _ hu
 constructor
 · rw [Int.natAbs_ediv_of_dvd (Int.gcd_dvd_left ..)];exact Nat.div_le_self _ _
 · rw [Int.natAbs_ediv_of_dvd (Int.gcd_dvd_right ..)];exact Nat.div_le_self _ _
def strF(q:Rat):List UInt8:=if q.den=1 then strW q.num else strW q.num++47 :: dec q.den
def Short(q:Rat):Prop:=(dec q.num.natAbs).length≤300∧(dec q.den).length≤300
theorem strW_no(z:Int):(47:UInt8)∉strW z:=by
 unfold strW
 split
 · intro h;rcases List.mem_cons.1 h with h|h
   · exact absurd h (by decide)
   · exact dec_no (by decide) h
 · exact dec_no (by decide)
theorem strF_inj{p q:Rat}(h:strF p=strF q):p=q:=by
 unfold strF at h
 have split_:∀(a b c d:List UInt8),(47:UInt8)∉a→(47:UInt8)∉c→a++47 :: b=c++47 :: d→a=c∧b=d:=by
  intro a;induction a with
  | nil =>
   intro b c d _ hc e;cases c with
   | nil=>exact ⟨rfl,(List.cons.inj e).2⟩
   | cons x t=>exact absurd (List.cons.inj e).1 (fun e=>hc (by rw [←e];exact List.mem_cons_self))
  | cons x t ih =>
   intro b c d ha hc e;cases c with
   | nil=>exact absurd (List.cons.inj e).1 (fun e=>ha (by rw [e];exact List.mem_cons_self))
   | cons y s =>
    obtain⟨e1,e2⟩:=List.cons.inj e;obtain⟨e3,e4⟩:=ih b s d (fun m=>ha (List.mem_cons_of_mem _ m)) (fun m=>hc (List.mem_cons_of_mem _ m)) e2;exact⟨by rw [e1,e3],e4⟩
 by_cases hp:p.den=1 <;> by_cases hq:q.den=1
 · rw [if_pos hp,if_pos hq]at h;exact Rat.ext (strW_inj h) (by rw [hp,hq])
 · rw [if_pos hp,if_neg hq]at h;exact absurd (show(47:UInt8)∈strW p.num by rw [h];simp) (strW_no _)
 · rw [if_neg hp,if_pos hq]at h;exact absurd (show(47:UInt8)∈strW q.num by rw [←h];simp) (strW_no _)
 · rw [if_neg hp,if_neg hq]at h;obtain⟨e1,e2⟩:=split_ _ _ _ _ (strW_no _) (strW_no _) h;exact Rat.ext (strW_inj e1) (dec_inj e2)
end Go.Proofs.YtpdghgfbfmaplaaGreatDoor.Wh
end
