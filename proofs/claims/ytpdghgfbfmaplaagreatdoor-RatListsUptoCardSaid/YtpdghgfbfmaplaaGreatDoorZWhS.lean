/- Lemmas for RatLists. -/
import Derived.Test.YtpdghgfbfmaplaaGreatDoorQM
set_option maxRecDepth 100000
set_option maxHeartbeats 8000000
section
set_option linter.unusedVariables false
namespace Go.Proofs.YtpdghgfbfmaplaaGreatDoor.Wh
open Go.RowKit Go.Proofs.YtpdghgfbfmaplaaGreatDoor.Num Go.Proofs.YtpdghgfbfmaplaaGreatDoor.Dec Go.Proofs.YtpdghgfbfmaplaaGreatDoorW.PrintWords
section
variable {P:Nat→Prop} {K:Nat} {w:World}
theorem IsW.len{x:WV}{z:Int}(h:IsW P K w x z):x.n≤K:=by
 obtain⟨⟨l,h1,h2,h3,h4⟩,h5⟩:=h
 rw [←h1]
 exact rep_len' h3 h4
theorem dec_len{n K:Nat}(h:n<1000000000^K):(dec n).length≤9*K+1:=by
 rcases Nat.lt_or_ge (9*K+1) (dec n).length with hl|hl
 · exfalso
   match hd:dec n with
   | []=>rw [hd]at hl;simp at hl
   | c :: t =>
    have h1:=dec_lead n;have h2:=dec_digs n;have h3:=dval_dec n;rw [hd]at h1 h2 h3 hl;rw [dval_cons]at h3;have hc:c≠48:=fun e=>by
     have:=h1.2 (by rw [e];rfl);rw [this]at hl;simp at hl
    have h4:=h2 c List.mem_cons_self;have h5:c.toNat≠48:=fun e=>hc (u8_eq (b:=48) e)
    have h6:10^t.length≤(c.toNat-48)*10^t.length:=Nat.le_mul_of_pos_left _ (by omega);have h7:10^(9*K)≤10^t.length:=Nat.pow_le_pow_right (by decide) (by simp at hl;omega);rw [Nat.pow_mul]at h7;have h8:(10^9)^K=1000000000^K:=rfl;omega
 · exact hl
theorem c_Digits{x:WV}{z:Int}(hx:IsW P K w x z)(hK:K≤15637498706000) :
 Calls Tryz.prog 103 #[.agg #[.bool x.b,.slice x.A x.n x.c]] w fun e w'=>e=.returned (.int .i64 ((dec z.natAbs).length:Int))∧Below w.heap.size w w':=by
 have HX:=Lib.hid hx
 have hl:=dec_len hx.bd
 clear hx
 go_enter Tryz.func103,Tryz.ntmps103
 go_wp2_with fail
 refine(c_Abs (HX.out.below blo)).mono ?_
 rintro e w1 ⟨y,rfl,hy,hb1⟩
 have HY:=Lib.hid hy
 have hyn:y.n≤15637498706000:=Nat.le_trans hy.len hK
 clear hy
 go_wp2_with fail
 refine(c_String HY.out hyn).mono ?_
 rintro e w2 ⟨rfl,hb2⟩
 have e1:strW (z.natAbs:Int)=dec z.natAbs:=by unfold strW;rw [if_neg (by omega)];congr 1
 rw [e1]
 generalize hd:dec z.natAbs=d at *
 have HD:=Lib.hid hd
 unfold Sg
 clear e1 hd
 go_wp2_with fail
 go_ret
 exact⟨by rw [HD.out];rfl,blo⟩
end
end Go.Proofs.YtpdghgfbfmaplaaGreatDoor.Wh
end
