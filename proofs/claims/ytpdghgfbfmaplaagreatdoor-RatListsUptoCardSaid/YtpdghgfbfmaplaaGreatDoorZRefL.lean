/- Lemmas for RatLists. -/
import Derived.Test.YtpdghgfbfmaplaaGreatDoorZRefJ
import Derived.Test.YtpdghgfbfmaplaaGreatDoorZRatG
set_option maxRecDepth 100000
set_option maxHeartbeats 8000000
section
set_option linter.unusedVariables false
set_option linter.unusedSimpArgs false
namespace Go.Proofs.YtpdghgfbfmaplaaGreatDoor.Rf
open Go.RowKit Go.Proofs.YtpdghgfbfmaplaaGreatDoorW.PrintWords Go.Proofs.YtpdghgfbfmaplaaGreatDoor.Num Go.Proofs.YtpdghgfbfmaplaaGreatDoor.PRef Go.Proofs.YtpdghgfbfmaplaaGreatDoor.WhC Go.Proofs.YtpdghgfbfmaplaaGreatDoor.Dec Go.Proofs.YtpdghgfbfmaplaaGreatDoor.Wh
def qcells(x:QV):List Value:=[.bool x.b,.slice x.nA x.nn x.nc,.slice x.dA x.dn x.dc]
def qvK:Kd QV where
 sz:=3
 E:=[]
 K:=fun _ x cs=>cs=qcells x
 M:=fun _ _ _ x cs=>cs=qcells x
 K_len:=fun h=>by rw [h];rfl
 K_one:=fun h u hu=>by
  rw [h]at hu;simp only [qcells,List.mem_cons,List.not_mem_nil,or_false]at hu;rcases hu with rfl|rfl|rfl <;> rfl
 K_below:=fun _ h=>h
 K_of_M:=fun h=>h
 M_mono:=fun _ h=>h
 M_bound:=fun h=>h
 M_move:=fun _ h=>h
 M_lower:=fun _ h=>h
def Qs(P:Nat→Prop)(K:Nat)(w:World)(xs:List QV)(qs:List Rat):Prop:=xs.length=qs.length∧∀(i:Nat) (x:QV) (q:Rat),xs[i]?=some x→qs[i]?=some q→IsQ P K w x q
section
variable {P P':Nat→Prop} {K K':Nat} {w w1 W W1:World} {xs:List QV} {qs:List Rat} {x:QV} {q:Rat} {v v1:Value}
theorem IsQ.bound(h:IsQ P K w x q):IsQ (fun k=>P k∧k<w.heap.size) K w x q:=⟨h.1.bound,h.2.1.bound,h.2.2⟩
theorem IsQ.step(h:IsQ P K w x q)(hm:∀k,P k→k<w.heap.size→w1.heap[k]?=w.heap[k]?):IsQ P K w1 x q:=⟨h.1.step hm,h.2.1.step hm,h.2.2⟩
theorem Qs.below(h:Qs P K w xs qs)(hb:Below w.heap.size w w1):Qs P K w1 xs qs:=⟨h.1,fun i x q h1 h2=>(h.2 i x q h1 h2).below hb⟩
theorem Qs.mono(h:Qs P K w xs qs)(hP:∀k,P k→P' k):Qs P' K w xs qs:=⟨h.1,fun i x q h1 h2=>(h.2 i x q h1 h2).mono hP⟩
theorem Qs.gap(h:Qs P K w xs qs)(n:Nat):Qs (Gp P w.heap.size n) K w xs qs:=⟨h.1,fun i x q h1 h2=>(h.2 i x q h1 h2).gap n⟩
theorem Qs.put{s n:Nat}(h:Qs (Gp P s n) K w xs qs){p:Addr}(u:Value)(h1:s≤p.block)(h2:p.block<s+n):Qs (Gp P s n) K (w.setCell p u) xs qs:=⟨h.1,fun i x q h3 h4=>(h.2 i x q h3 h4).put u h1 h2⟩
theorem Qs.nil:Qs P K w [] []:=⟨rfl,fun i x q h1 h2=>by simp at h1⟩
theorem Qs.snoc(h:Qs P K w xs qs)(hx:IsQ P K w x q):Qs P K w (xs++ [x]) (qs++ [q]):=by
 refine⟨by simp [h.1],fun i y p h1 h2=>?_⟩
 rcases Nat.lt_trichotomy i xs.length with hi|hi|hi
 · rw [List.getElem?_append_left hi]at h1;rw [List.getElem?_append_left (by rw [←h.1];exact hi)]at h2;exact h.2 i y p h1 h2
 · subst hi;rw [List.getElem?_append_right (Nat.le_refl _)]at h1;rw [h.1,List.getElem?_append_right (Nat.le_refl _)]at h2;simp at h1 h2
   rw [←h1,←h2];exact hx
 · rw [List.getElem?_eq_none (by simp;omega)]at h1;cases h1
theorem IsQ.grown(h:IsQ (fun k=>P k∧some k≠v.ownBlock) K W x q)(hg:W.grownBy w1 v.ownBlock)(hat:v1.ownBlock=v.ownBlock∨∃b,v1.ownBlock=some b∧W.heap.size≤b):IsQ (fun k=>P k∧some k≠v1.ownBlock) K w1 x q:=by
 refine((h.bound).step (fun k hk hlt=>hg.block k hlt hk.1.2)).mono (fun k hk=>⟨hk.1.1,?_⟩)
 rcases hat with hat|⟨b,hb,hle⟩
 · rw [hat];exact hk.1.2
 · rw [hb];intro e;have:=hk.2;have:=Option.some.inj e;omega
theorem Qs.grown(h:Qs (fun k=>P k∧some k≠v.ownBlock) K W xs qs)(hg:W.grownBy w1 v.ownBlock)(hat:v1.ownBlock=v.ownBlock∨∃b,v1.ownBlock=some b∧W.heap.size≤b):Qs (fun k=>P k∧some k≠v1.ownBlock) K w1 xs qs :=
 ⟨h.1,fun i x q h1 h2=>(h.2 i x q h1 h2).grown hg hat⟩
end
theorem infoQ:(Tryz.prog.info? 60).map (fun i=>(i.zero,i.size,i.bytes))=some (some (.agg #[.bool false,.slice none 0 0,.slice none 0 0]),3,56):=by kernel_rfl
def LsRel(P:Nat→Prop)(w:World)(bs:List ByteArray)(v4 v5:Value)(W:World):Prop :=
 ∃(k:Nat) (xs:List QV) (qs:List Rat),v5=.int .i64 k∧k≤bs.length∧numsB (bs.take k)=some qs∧Kd.R qvK 60 W w.heap.size (fun _=>True) v4 xs∧Qs (fun k=>P k∧some k≠v4.ownBlock) 75 W xs qs∧Below w.heap.size w W
theorem q_list{P:Nat→Prop}{w:World}{A:Option Addr}{c:Nat}(bs:List ByteArray)(hA:Kd.string.C w A bs.length bs)(hn:bs.length≤1000000000)(hs:∀s∈bs,s.size≤140737488351232)(hP:∀k,w.heap.size≤k→P k) :
 Calls Tryz.prog 79 #[.slice A bs.length c] w fun e w'=>((∃(qs:List Rat) (xs:List QV) (v:Value),numsB bs=some qs∧e=.returned (.tuple #[v,.bool true])∧Kd.R qvK 60 w' w.heap.size (fun _=>True) v xs∧Qs P 75 w' xs qs)∨(numsB bs=none∧e=.returned (.tuple #[.slice none 0 0,.bool false])))∧Below w.heap.size w w':=by
 have HP:=Lib.hid hP
 have HS:=Lib.hid hs
 have HA:=Lib.hid hA
 clear hP hs hA
 go_enter Tryz.func79,Tryz.ntmps79
 go_wp2_with fail
 go_loopw [4,5] (fun v4 v5 W=>LsRel P w bs v4 v5 W) (fun _ v5 _=>bs.length-(intOf v5).toNat)
 case atStart=>exact ⟨0,[],[],rfl,Nat.zero_le _,rfl,Kd.R_nil _ _ _ _ _,Qs.nil,Below.refl _ _⟩
 case round =>
  obtain⟨k,xs,qs,rfl,hk,hq,hR,hF,hB⟩:=hrel;have HQ:=Lib.hid hq;have HR:=Lib.hid hR;have HF:=Lib.hid hF;have HB:=Lib.hid hB;have hlx:xs.length=k:=by rw [hF.1,←numsB_len hq,List.length_take];omega
  have HLX:=Lib.hid hlx;clear hq hR hF hB hlx;by_cases hlt:k<bs.length
  · obtain⟨ad,hadd,hcell⟩:=Kd.at_string (Kd.C_below HA.out HB.out) (k:Int) (by omega) (by omega);rw [Int.toNat_natCast]at hcell;obtain⟨s,hs⟩:∃s,s=bs[k]'hlt:=⟨_,rfl⟩;rw [show rdOf ByteArray.empty bs (k:Int)=s by rw [hs];simp [rdOf,hlt]]at hcell;have hsz:s.size≤140737488351232:=HS.out s (by rw [hs];exact List.getElem_mem hlt);have HT:=Lib.hid (show bs.take (k+1)=bs.take k++ [s] by rw [hs];exact List.take_succ_eq_append_getElem hlt);have HSZ:=Lib.hid hsz;subst hadd;clear hs hsz;have hlt':(k:Int)<(bs.length:Int):=by omega
    have hk0:(0:Int)≤(k:Int):=by omega
    have HFR:=Lib.hid (show ∀j,wr.heap.size≤j→P j∧some j≠u4.ownBlock from fun j hj=>⟨HP.out j (Nat.le_trans HB.out.size hj),fun e=>by
     obtain⟨inner,ho⟩:=Kd.R_own HR.out;have:=own_lt ho j e.symm
     omega⟩)
    go_wp2_with fail
    refine(q_Read (P:=fun j=>P j∧some j≠u4.ownBlock) s HSZ.out HFR.out).mono ?_;rintro e w1 ⟨⟨q,r,e1,rfl,hx⟩|⟨hno,rfl⟩,hb1⟩
    · have HX:=Lib.hid hx;have HN:=Lib.hid e1;have HB1:=Lib.hid hb1;obtain⟨A4,c4,rfl⟩:=Kd.R_slice HR.out;clear hx e1 hb1;have HB2:=Lib.hid (show Below w.heap.size w (w1.alloc (.cells #[.bool r.b,.slice r.nA r.nn r.nc,.slice r.dA r.dn r.dc] 60))from (have hb9:=bl_call HB.out HB1.out;blq));have HR2:=Lib.hid (Kd.R_below (w1:=(w1.alloc (.cells #[.bool r.b,.slice r.nA r.nn r.nc,.slice r.dA r.dn r.dc] 60))) HR.out (have hb9:=HB1.out;blq));have HF2:=Lib.hid ((HF.out.below (w1:=(w1.alloc (.cells #[.bool r.b,.slice r.nA r.nn r.nc,.slice r.dA r.dn r.dc] 60))) (have hb9:=HB1.out;blq)).snoc (HX.out.below blq));have hkx:xs.length≤1000000000:=by rw [HLX.out];omega
      clear HR HF HX;go_wp2_with (at_builtin;go_must (refine Kd.R_append qvK (w0:=w) w.heap.size rfl (.tmp 24) (.tmp 26) 82 60 (.agg #[.bool false,.slice none 0 0,.slice none 0 0]) 56 rfl Tryz.underlying82 infoQ rfl (by decide) (by decide) (.slice A4 xs.length c4) xs r [.bool r.b,.slice r.nA r.nn r.nc,.slice r.dA r.dn r.dc] (fun _=>True) (fun _=>False) rfl (by simp only [World.alloc,Array.size_push];rfl) rfl (fun _ hk=>hk.elim) (fun _ _=>trivial) HR2.out HB2.out HB2.out.size (by omega) ?_);intro v9 w9 hr9 hb9 hg9 hat9;have HR9:=Lib.hid hr9;have HB9:=Lib.hid hb9;have HF9:=Lib.hid (HF2.out.grown hg9 hat9);clear hr9 hb9 hg9 hat9)
      go_roundw
      case rel =>
       refine⟨k+1,xs++ [r],qs++ [q],by go_num,hlt,?_,HR9.out,HF9.out,HB9.out⟩;rw [HT.out,numsB_snoc,HQ.out,HN.out]
      case measure=>simp [intOf];omega
    · have HN:=Lib.hid hno;have HB1:=Lib.hid (bl_call HB.out hb1);clear hno hb1;go_wp2_with fail
      go_ret2
      refine⟨.inr ⟨?_,rfl⟩,?_⟩
      · have e1:=numsB_snoc (l:=bs.take k) (s:=s);rw [HQ.out,HN.out]at e1;rw [←List.take_append_drop (k+1) bs,HT.out];exact numsB_none_app e1
      · have hb9:=HB1.out;exact blq
  · obtain rfl:k=bs.length:=by omega
    have HQ2:=Lib.hid (show numsB bs=some qs by have:=HQ.out;rwa [List.take_length]at this);clear HQ;go_wp2_with fail
    go_ret2
    exact⟨.inl ⟨qs,xs,u4,HQ2.out,rfl,HR.out,HF.out.mono (fun _ hk=>hk.1)⟩,HB.out⟩
def RowQ(g:Nat)(xs:List QV)(W:World):Prop:=g<W.heap.size∧∀i x,xs[i]?=some x→∀j u,(qcells x)[j]?=some u→W.cell? ⟨g,i*3+j,none⟩=some u∧W.frozen? ⟨g,i*3+j,none⟩=false
theorem RowQ.below{g:Nat}{xs:List QV}{W W1:World}(h:RowQ g xs W)(hb:Below W.heap.size W W1):RowQ g xs W1 :=
 ⟨Nat.lt_of_lt_of_le h.1 hb.size,fun i x hi j u hj=>⟨(hb.cell (p:=⟨g,i*3+j,none⟩) h.1).trans (h.2 i x hi j u hj).1,(hb.frozen (p:=⟨g,i*3+j,none⟩) h.1).trans (h.2 i x hi j u hj).2⟩⟩
theorem row_q{W:World}{base n cap:Nat}{A:Option Addr}{ok:Nat→Prop}{xs:List QV}{i:Nat}(h:Kd.R qvK 60 W base ok (.slice A n cap) xs)(hi:i<xs.length):∃g,A=some ⟨g,0,none⟩∧RowQ g xs W:=by
 have hn:=(Kd.R_reads' h).1
 obtain⟨inner,ho⟩:=Kd.R_own h
 rcases ho.2 with ⟨_,h2⟩|⟨g,cap',cur,he,_⟩
 · have:xs= []:=by simpa using h2
   rw [this]at hi;exact absurd hi (by simp)
 · obtain⟨rfl,rfl,rfl⟩:A=some ⟨g,0,none⟩∧n=_∧cap=cap':=by injection he with h1 h2 h3;exact⟨h1,h2,h3⟩
   refine⟨g,rfl,own_lt ho g rfl,fun i x hi j u hj=>?_⟩;have hil:i<xs.length:=by
    rcases Nat.lt_or_ge i xs.length with h1|h1
    · exact h1
    · rw [List.getElem?_eq_none h1]at hi;cases hi
   obtain⟨c,h1,h2,h3,h4⟩:=Kd.R_elem h x (i:Int) (by omega) (by omega);rw [Int.toNat_natCast]at h2 h3 h4;have h5:xs.getD i x=x:=by simp [List.getD_eq_getElem?_getD,hi]
   rw [h5]at h2;have h6:c=qcells x:=h2;subst h6;exact⟨h3 j u hj,h4 j⟩
theorem row_fr{g gb k:Nat}{xs:List QV}{y o:QV}{W:World}(h:RowQ g xs W)(hy:xs[k]?=some y)(hf:Fr [(gb,0,.bool o.b),(gb,1,.slice o.nA o.nn o.nc),(gb,2,.slice o.dA o.dn o.dc)] (gb+1) W) :
 Fr [(gb,0,.bool o.b),(gb,1,.slice o.nA o.nn o.nc),(gb,2,.slice o.dA o.dn o.dc),(g,k*3,.bool y.b),(g,k*3+1,.slice y.nA y.nn y.nc),(g,k*3+2,.slice y.dA y.dn y.dc)] W.heap.size W:=by
 have e0:=h.2 k y hy 0 _ rfl
 have e1:=h.2 k y hy 1 _ rfl
 have e2:=h.2 k y hy 2 _ rfl
 have hg:=h.1
 have hs:=hf.1
 refine Fr.app (L:=[(gb,0,.bool o.b),(gb,1,.slice o.nA o.nn o.nc),(gb,2,.slice o.dA o.dn o.dc)]) (hf.up hs (Nat.le_refl _)) ?_
 exact(((Fr.nil (Nat.le_refl _)).cons hg e2.1 e2.2).cons hg e1.1 e1.2).cons hg e0.1 e0.2
theorem row_fr2{g g' gb k:Nat}{xs ys:List QV}{y z o:QV}{W:World}(h:RowQ g xs W)(hy:xs[k]?=some y)(h':RowQ g' ys W)(hz:ys[k]?=some z)(hf:Fr [(gb,0,.bool o.b),(gb,1,.slice o.nA o.nn o.nc),(gb,2,.slice o.dA o.dn o.dc)] (gb+1) W) :
 Fr [(gb,0,.bool o.b),(gb,1,.slice o.nA o.nn o.nc),(gb,2,.slice o.dA o.dn o.dc),(g,k*3,.bool y.b),(g,k*3+1,.slice y.nA y.nn y.nc),(g,k*3+2,.slice y.dA y.dn y.dc),(g',k*3,.bool z.b),(g',k*3+1,.slice z.nA z.nn z.nc),(g',k*3+2,.slice z.dA z.dn z.dc)] W.heap.size W:=by
 have e0:=h'.2 k z hz 0 _ rfl
 have e1:=h'.2 k z hz 1 _ rfl
 have e2:=h'.2 k z hz 2 _ rfl
 have hg:=h'.1
 refine Fr.app (L:=[(gb,0,.bool o.b),(gb,1,.slice o.nA o.nn o.nc),(gb,2,.slice o.dA o.dn o.dc),(g,k*3,.bool y.b),(g,k*3+1,.slice y.nA y.nn y.nc),(g,k*3+2,.slice y.dA y.dn y.dc)]) (row_fr h hy hf) ?_
 exact(((Fr.nil (Nat.le_refl _)).cons hg e2.1 e2.2).cons hg e1.1 e1.2).cons hg e0.1 e0.2
theorem add_bd{B a b:Nat}{u v:Rat}(hB:2≤B)(h1:u.num.natAbs<B^a)(h2:u.den<B^a)(h3:v.num.natAbs<B^b)(h4:v.den<B^b):(u+v).num.natAbs<B^(a+b+1)∧(u+v).den<B^(a+b+1):=by
 have hd:(0:Int)<(u.den:Int)*v.den:=Int.mul_pos (den_pos u) (den_pos v)
 obtain⟨e1,e2⟩:=divInt_pos (z:=u.num*v.den+v.num*u.den) hd
 rw [add_divInt]at e1 e2
 have hp:B^(a+b+1)=B^a*B^b*B:=by rw [Nat.pow_succ,Nat.pow_add]
 have k1:=Nat.mul_lt_mul'' h1 h4
 have k2:=Nat.mul_lt_mul'' h3 h2
 have k3:=Nat.mul_lt_mul'' h2 h4
 have k5:B^b*B^a=B^a*B^b:=Nat.mul_comm _ _
 have k4:B^a*B^b*2≤B^a*B^b*B:=Nat.mul_le_mul_left _ hB
 constructor
 · rw [e1,hp];refine Nat.lt_of_le_of_lt (Int.natAbs_ediv_le_natAbs _ _) ?_;refine Nat.lt_of_le_of_lt (Int.natAbs_add_le _ _) ?_;rw [Int.natAbs_mul,Int.natAbs_mul];simp only [Int.natAbs_natCast];omega
 · have h9:((u+v).den:Int)≤(u.den:Int)*v.den:=by rw [e2];exact Int.ediv_le_self _ (Int.le_of_lt hd)
   have h10:(u+v).den≤u.den*v.den:=by exact_mod_cast h9
   rw [hp];omega
noncomputable def rTotal (l:List ByteArray):ByteArray×Int:=match numsB l with
 | none=>(nob,1)
 | some qs=>tellB (qs.foldl (· + ·) 0)
noncomputable def rDot (l m:List ByteArray):ByteArray×Int:=match numsB l,numsB m with
 | some qs,some ps=>if qs.length=ps.length then tellB ((List.zipWith (· * ·) qs ps).foldl (· + ·) 0)else (nob,3)
 | _,_=>(nob,1)
theorem fold_snoc{f:Rat→Rat→Rat}{z q:Rat}{qs:List Rat}{k:Nat}(h:qs[k]?=some q):(qs.take (k+1)).foldl f z=f ((qs.take k).foldl f z) q:=by rw [List.take_add_one,h,List.foldl_append];rfl
end Go.Proofs.YtpdghgfbfmaplaaGreatDoor.Rf
end
