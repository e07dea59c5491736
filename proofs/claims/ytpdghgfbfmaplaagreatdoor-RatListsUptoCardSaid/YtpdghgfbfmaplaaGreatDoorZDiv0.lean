/- Lemmas for RatLists. -/
import Derived.Test.YtpdghgfbfmaplaaGreatDoorZWhJ
set_option maxRecDepth 100000
set_option maxHeartbeats 8000000
section
set_option linter.unusedVariables false
namespace Go.Proofs.YtpdghgfbfmaplaaGreatDoor.Wh
open Go.RowKit Go.Proofs.YtpdghgfbfmaplaaGreatDoorW.PrintWords Go.Proofs.YtpdghgfbfmaplaaGreatDoor.Num Go.Proofs.YtpdghgfbfmaplaaGreatDoor.PWhole Go.Proofs.YtpdghgfbfmaplaaGreatDoor.WhC
theorem cell_old{W:World}{p:Addr}{v:Value}{o:Obj}(h:W.cell? p=some v)(hp:p.block<W.heap.size):(W.alloc o).cell? p=some v:=by rw [World.cell?_alloc_lt (h:=hp)];exact h
theorem cell_hit{W:World}{p:Addr}{v u:Value}(h:W.cell? p=some u):(W.setCell p v).cell? p=some v:=by rw [World.cell?_setCell_same (h:=h)]
theorem cell_par{W:World}{p q:Addr}{v u:Value}(h:W.cell? p=some v)(hne:q.off≠p.off):(W.setCell q u).cell? p=some v:=by
 rw [World.cell?_setCell_other (h:=fun e=>hne (by rw [e]))];exact h
theorem cell_below{B:Nat}{w w':World}{p:Addr}{v:Value}(h:Below B w w')(hp:p.block<B)(hc:w.cell? p=some v):w'.cell? p=some v:=(h.cell hp).trans hc
theorem froz_old{W:World}{p:Addr}{o:Obj}{b:Bool}(h:W.frozen? p=b)(hp:p.block<W.heap.size):(W.alloc o).frozen? p=b:=by
 rw [World.frozen?_alloc_old (h:=by omega)];exact h
theorem froz_below{B:Nat}{w w':World}{p:Addr}{b:Bool}(h:Below B w w')(hp:p.block<B)(hc:w.frozen? p=b):w'.frozen? p=b:=(h.frozen hp).trans hc
theorem cell_new{W:World}{c:Array Value}{t:TypeId}{n i:Nat}{v:Value}(hn:n=W.heap.size)(h:c[i]?=some v):(W.alloc (.cells c t)).cell? ⟨n,i,none⟩=some v:=by subst hn;simpa using h
theorem froz_new{W:World}{c:Array Value}{t:TypeId}{n i:Nat}(hn:n=W.heap.size):(W.alloc (.cells c t)).frozen? ⟨n,i,none⟩=false:=by subst hn;simp
theorem cell_new0{W:World}{a b:Value}{t:TypeId}{n:Nat}(hn:n=W.heap.size):(W.alloc (.cells #[a,b] t)).cell? ⟨n,0,none⟩=some a:=by subst hn;simp
theorem cell_new1{W:World}{a b:Value}{t:TypeId}{n:Nat}(hn:n=W.heap.size):(W.alloc (.cells #[a,b] t)).cell? ⟨n,1,none⟩=some b:=by subst hn;simp
theorem Fr.tail{a:Nat×Nat×Value}{L:List (Nat×Nat×Value)}{s:Nat}{W:World}(h:Fr (a :: L) s W):Fr L s W:=⟨h.1,fun x hx=>h.2 x (List.mem_cons_of_mem _ hx)⟩
theorem Fr.far2{g s:Nat}{a b v:Value}{W:World}{p:Addr}(h:Fr [(g,0,a),(g,1,b)] s W)(hp:g≠p.block):Fr [(g,0,a),(g,1,b)] s (W.setCell p v) :=
 ⟨by have:=h.1;simpa [World.setCell]using this,fun x hx=>by
  obtain⟨h1,h2,h3⟩:=h.2 x hx;have hx1:x.1=g:=by simp at hx;rcases hx with rfl|rfl <;> rfl
  exact⟨h1,cell_far h2 (by simpa [hx1]using hp),by rw [World.frozen?_setCell];exact h3⟩⟩
section
variable {P:Nat→Prop} {K:Nat} {w:World} {x:WV} {z:Int}
theorem IsW.bound(h:IsW P K w x z):IsW (fun k=>P k∧k<w.heap.size) K w x z:=by
 obtain⟨⟨l,h1,h2,h3,h4⟩,h5⟩:=h;exact⟨⟨l,h1,Kd.V_bound h2,h3,h4⟩,h5⟩
theorem Sl.bound{v:Value}{l:List Int}(h:Sl P w v l):Sl (fun k=>P k∧k<w.heap.size) w v l:=Kd.V_bound h
theorem IsW.setp(h:IsW P K w x z){p:Addr}{u:Value}(hp:∀k,P k→k≠p.block):IsW P K (w.setCell p u) x z:=h.step (fun k hk _=>Below.heap_setCell w p u k (hp k hk))
theorem IsW.alc(h:IsW P K w x z){o:Obj}:IsW P K (w.alloc o) x z:=h.below ((Below.refl _ _).alloc (Nat.le_refl _) o)
theorem IsW.drw(h:IsW P K w x z):IsW P K w.drew x z:=h.below (Below.refl _ _).drew
end
structure DivTop (w:World) (x y:WV) (W:World):Prop where
 fb:Fr [(w.heap.size,0,.bool x.b),(w.heap.size,1,.slice x.A x.n x.c),(w.heap.size+1,0,.bool y.b),(w.heap.size+1,1,.slice y.A y.n y.c),(w.heap.size+1+1,0,.bool false),(w.heap.size+1+1,1,.slice none 0 0),(w.heap.size+1+1+1,0,.bool false),(w.heap.size+1+1+1,1,.slice none 0 0)] (w.heap.size+1+1+1+1) W
 sz:w.heap.size+4≤W.heap.size
 be:Below w.heap.size w W
structure DivWords (P:Nat→Prop) (K:Nat) (W:World) (v6 v7:Value) (a b:Int) (Aq Ar:Option Addr) (cq cr:Nat) (q r:List Int):Prop where
 e6:v6=.slice Aq q.length cq
 e7:v7=.slice Ar r.length cr
 sq:Sl P W (.slice Aq q.length cq) q
 sr:Sl P W (.slice Ar r.length cr) r
 dq:Dg B q
 dr:Dg B r
 lq:q.length≤K+1
 lr:r.length≤K+1
 vq:val B q=a/b
 vr:val B r=a%b
theorem sl_nil(P:Nat→Prop)(w:World):Sl P w (.slice none ([]:List Int).length 0) []:=Kd.V_nil _ _ _ _ _
theorem IsW.set9{P:Nat→Prop}{K g9 g10:Nat}{w:World}{x:WV}{z:Int}(h:IsW (Ex (Ex P g9) g10) K w x z)(j:Nat)(u:Value):IsW (Ex (Ex P g9) g10) K (w.setCell ⟨g9,j,none⟩ u) x z :=
 h.step (fun k hk _=>Below.heap_setCell w ⟨g9,j,none⟩ u k hk.1.2)
theorem ex2{P:Nat→Prop}{s g9 g10:Nat}(h:∀k,s≤k→P k)(h9:g9<s)(h10:g10<s):∀k,s≤k→Ex (Ex P g9) g10 k:=fun k hk=>⟨⟨h k hk,by omega⟩,by omega⟩
def PW(P:Nat→Prop)(s0 s:Nat):Nat→Prop:=fun k=>P k∧(k<s0∨s≤k)
theorem pw_old{P:Nat→Prop}{s0 s:Nat}:∀k,(P k∧k<s0)→PW P s0 s k:=fun k h=>⟨h.1,.inl h.2⟩
theorem pw_new{P:Nat→Prop}{s0 s:Nat}(h:∀k,s≤k→P k):∀k,s≤k→PW P s0 s k:=fun k hk=>⟨h k hk,.inr hk⟩
theorem pw_ex{P:Nat→Prop}{s0 s m g9 g10:Nat}(h9:(s0≤g9∧g9<s)∨(s0≤g9∧m≤g9))(h10:(s0≤g10∧g10<s)∨(s0≤g10∧m≤g10)):∀k,(PW P s0 s k∧k<m)→Ex (Ex P g9) g10 k :=
 fun k h=>⟨⟨h.1.1,by have:=h.1.2;omega⟩,by have:=h.1.2;omega⟩
theorem tdiv_sign(z u:Int)(hu:u≠0):(decide (z<0) !=decide (u<0))=decide (z.tdiv u<0)∨z.tdiv u=0:=by
 by_cases h:z.tdiv u=0
 · exact .inr h
 · left
   rcases Int.lt_or_le z 0 with hz|hz <;> rcases Int.lt_or_le u 0 with hv|hv
   · have h1:0≤(-z).tdiv (-u):=Int.tdiv_nonneg (by omega) (by omega);rw [Int.neg_tdiv,Int.tdiv_neg,Int.neg_neg]at h1;simp [hz,hv];omega
   · have h1:0≤(-z).tdiv u:=Int.tdiv_nonneg (by omega) (by omega);rw [Int.neg_tdiv]at h1;simp [hz,show ¬u<0 by omega];omega
   · have h1:0≤z.tdiv (-u):=Int.tdiv_nonneg (by omega) (by omega);rw [Int.tdiv_neg]at h1;simp [hv,show ¬z<0 by omega];omega
   · have h1:0≤z.tdiv u:=Int.tdiv_nonneg (by omega) (by omega);simp [show ¬z<0 by omega,show ¬u<0 by omega];omega
theorem tmod_sign(z u:Int):decide (z<0)=decide (z.tmod u<0)∨z.tmod u=0:=by
 by_cases h:z.tmod u=0
 · exact .inr h
 · left
   rcases Int.lt_or_le z 0 with hz|hz
   · have h1:0≤(-z).tmod u:=Int.tmod_nonneg u (by omega);rw [Int.neg_tmod]at h1;simp [hz];omega
   · have h1:0≤z.tmod u:=Int.tmod_nonneg u (by omega);simp [show ¬z<0 by omega];omega
theorem mend_neg{z u:Int}(hu:u≠0)(h:z.tmod u<0):z.tmod u+(u.natAbs:Int)=z%u∧z.tdiv u-u.sign=z/u:=by
 have e1:=Int.tmod_eq_emod (a:=z) (b:=u)
 have e2:=Int.tdiv_eq_ediv (a:=z) (b:=u)
 have e3:=Int.emod_nonneg z hu
 by_cases hc:0≤z∨u∣z
 · rw [if_pos hc]at e1;omega
 · rw [if_neg hc]at e1 e2;omega
theorem mend_pos{z u:Int}(hu:u≠0)(h:¬z.tmod u<0):z.tmod u=z%u∧z.tdiv u=z/u:=by
 have e1:=Int.tmod_eq_emod (a:=z) (b:=u)
 have e2:=Int.tdiv_eq_ediv (a:=z) (b:=u)
 have e3:=Int.emod_lt z hu
 by_cases hc:0≤z∨u∣z
 · rw [if_pos hc]at e1 e2;omega
 · rw [if_neg hc]at e1;omega
def regOf(n:Nat):Code→Option Code
 | .region id ops b=>if id=n then some (.region id ops b)else none
 | .seq a b=>match regOf n a with
  | some c=>some c
  | none=>regOf n b
 | .cond _ a b=>match regOf n a with
  | some c=>some c
  | none=>regOf n b
 | .block _ c=>regOf n c
 | .loop c=>regOf n c
 | .scope c=>regOf n c
 | _=>none
theorem fresh{P:Nat→Prop}{w0 W:World}(hP:∀k,w0.heap.size≤k→P k)(hb:Below w0.heap.size w0 W):∀k,W.heap.size≤k→P k:=fun k hk=>hP k (Nat.le_trans hb.size hk)
theorem Fr.box{g:Nat}{a b v u:Value}{W:World}(h:Fr [(g,0,a),(g,1,b)] (g+1) W):Fr [(g,0,v),(g,1,u)] (g+1) ((W.setCell ⟨g,0,none⟩ v).setCell ⟨g,1,none⟩ u):=by
 have h0:=h.get 0 rfl
 have h1:=h.get 1 rfl
 have f0:=h.frz 0 rfl
 have f1:=h.frz 1 rfl
 refine Fr.cons (Fr.cons (Fr.nil ?_) (by omega) ?_ ?_) (by omega) ?_ ?_
 · have:=h.1;simpa [World.setCell]using this
 · exact cell_hit (cell_par h1 (by simp))
 · rw [World.frozen?_setCell,World.frozen?_setCell];exact f1
 · exact cell_par (cell_hit h0) (by simp)
 · rw [World.frozen?_setCell,World.frozen?_setCell];exact f0
theorem Fr.lit2{W:World}{n:Nat}{a b:Value}{t:TypeId}(hn:n=W.heap.size):Fr [(n,0,a),(n,1,b)] (n+1) (W.alloc (.cells #[a,b] t)):=by
 subst hn
 exact Fr.new1 (Fr.nil (Nat.le_refl _)) a b t
theorem Fr.alcx{L:List (Nat×Nat×Value)}{s:Nat}{W:World}{o:Obj}(h:Fr L s W):Fr L s (W.alloc o):=h.go ((Below.refl _ _).alloc (Nat.le_refl _) o)
structure R9 (P:Nat→Prop) (K:Nat) (wc W:World) (g9 g10:Nat) (q r:WV) (zq zr:Int):Prop where
 ne:g9≠g10
 ge9:wc.heap.size≤g9
 ge10:wc.heap.size≤g10
 lt9:g9<W.heap.size
 lt10:g10<W.heap.size
 c9:Fr [(g9,0,.bool q.b),(g9,1,.slice q.A q.n q.c)] (g9+1) W
 c10:Fr [(g10,0,.bool r.b),(g10,1,.slice r.A r.n r.c)] (g10+1) W
 hq:IsW (Ex (Ex P g9) g10) K W q zq
 hr:IsW (Ex (Ex P g9) g10) K W r zr
 be:Below wc.heap.size wc W
end Go.Proofs.YtpdghgfbfmaplaaGreatDoor.Wh
end
