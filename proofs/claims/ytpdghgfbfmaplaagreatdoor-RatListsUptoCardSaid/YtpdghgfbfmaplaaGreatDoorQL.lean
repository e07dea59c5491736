/- Lemmas for RatLists. -/
import Derived.Test.YtpdghgfbfmaplaaGreatDoorQK
set_option maxRecDepth 100000
set_option maxHeartbeats 8000000
section
set_option linter.unusedVariables false
set_option linter.unusedSimpArgs false
namespace Go.Proofs.YtpdghgfbfmaplaaGreatDoor.Wh
open Go.RowKit Go.Proofs.YtpdghgfbfmaplaaGreatDoorW.PrintWords Go.Proofs.YtpdghgfbfmaplaaGreatDoor.Num Go.Proofs.YtpdghgfbfmaplaaGreatDoor.Dec
section
variable {P:Nat→Prop} {K K':Nat} {w:World}
theorem c_FShort'{x:FV}{q:Rat}{b:Bool}(hx:IsF P K w x q)(hK:K≤15637498706000)(hb:decide (Short q)=b):Calls Tryz.prog 91 #[.agg #[.bool x.num.b,.slice x.num.A x.num.n x.num.c,.bool x.den.b,.slice x.den.A x.den.n x.den.c]] w fun e w'=>e=.returned (.bool b)∧Below w.heap.size w w':=hb▸c_FShort hx hK
theorem c_told_1{x:FV}{q:Rat}(hx:IsF P K w x q)(hK:K≤15637498706000)(hs:Short q) :
 Calls Tryz.prog 48 #[.agg #[.bool x.num.b,.slice x.num.A x.num.n x.num.c,.bool x.den.b,.slice x.den.A x.den.n x.den.c]] w fun e w'=>e=.returned (.tuple #[.string (tellB q).1,.int .i64 (tellB q).2])∧Below w.heap.size w w':=by
 have HX:=Lib.hid (hx.gap 1)
 have HK:=Lib.hid hK
 have HS:=Lib.hid (show decide (Short q)=true from decide_eq_true hs)
 have HE:=Lib.hid (show tellB q=(bsOf (strF q),0)from if_pos hs)
 clear hx hK hs
 have HF0:=Lib.hid (show Fr [(w.heap.size,0,(.bool x.num.b)),(w.heap.size,1,(.slice x.num.A x.num.n x.num.c)),(w.heap.size,2,(.bool x.den.b)),(w.heap.size,3,(.slice x.den.A x.den.n x.den.c))] (w.heap.size+1) (w.alloc (.cells #[.bool x.num.b,.slice x.num.A x.num.n x.num.c,.bool x.den.b,.slice x.den.A x.den.n x.den.c] 52))from frq)
 go_enter Tryz.func48,Tryz.ntmps48
 go_wp2_with fail
 refine(c_FShort' (HX.out.below blq) HK.out HS.out).mono ?_
 rintro e w1 ⟨rfl,hb1⟩
 have HF1:=fgo w1 HF0
 have hz1:=HF1.out.1
 have hl1_0:=lt1 hz1
 obtain⟨_,_,_,_,-⟩:=HF1.out.alls 0 4
 go_wp2_with fail
 refine(c_FString (HX.out.below blq) HK.out).mono ?_
 rintro e w2 ⟨rfl,hb2⟩
 have HF2:=fgo w2 HF1
 have hz2:=HF2.out.1
 have hl2_0:=lt1 hz2
 obtain⟨_,_,_,_,-⟩:=HF2.out.alls 0 4
 go_wp2_with fail
 go_ret2
 exact⟨by rw [HE.out];rfl,blq⟩
theorem c_told_0{x:FV}{q:Rat}(hx:IsF P K w x q)(hK:K≤15637498706000)(hs:¬Short q) :
 Calls Tryz.prog 48 #[.agg #[.bool x.num.b,.slice x.num.A x.num.n x.num.c,.bool x.den.b,.slice x.den.A x.den.n x.den.c]] w fun e w'=>e=.returned (.tuple #[.string (tellB q).1,.int .i64 (tellB q).2])∧Below w.heap.size w w':=by
 have HX:=Lib.hid (hx.gap 1)
 have HK:=Lib.hid hK
 have HS:=Lib.hid (show decide (Short q)=false from decide_eq_false hs)
 have HE:=Lib.hid (show tellB q=(nob,2)from if_neg hs)
 clear hx hK hs
 have HF0:=Lib.hid (show Fr [(w.heap.size,0,(.bool x.num.b)),(w.heap.size,1,(.slice x.num.A x.num.n x.num.c)),(w.heap.size,2,(.bool x.den.b)),(w.heap.size,3,(.slice x.den.A x.den.n x.den.c))] (w.heap.size+1) (w.alloc (.cells #[.bool x.num.b,.slice x.num.A x.num.n x.num.c,.bool x.den.b,.slice x.den.A x.den.n x.den.c] 52))from frq)
 go_enter Tryz.func48,Tryz.ntmps48
 go_wp2_with fail
 refine(c_FShort' (HX.out.below blq) HK.out HS.out).mono ?_
 rintro e w1 ⟨rfl,hb1⟩
 have HF1:=fgo w1 HF0
 have hz1:=HF1.out.1
 have hl1_0:=lt1 hz1
 obtain⟨_,_,_,_,-⟩:=HF1.out.alls 0 4
 go_wp2_with fail
 go_ret2
 exact⟨by rw [HE.out];rfl,blq⟩
theorem c_told{x:FV}{q:Rat}(hx:IsF P K w x q)(hK:K≤15637498706000) :
 Calls Tryz.prog 48 #[.agg #[.bool x.num.b,.slice x.num.A x.num.n x.num.c,.bool x.den.b,.slice x.den.A x.den.n x.den.c]] w fun e w'=>e=.returned (.tuple #[.string (tellB q).1,.int .i64 (tellB q).2])∧Below w.heap.size w w':=by
 by_cases hs:Short q
 · exact c_told_1 hx hK hs
 · exact c_told_0 hx hK hs
end
end Go.Proofs.YtpdghgfbfmaplaaGreatDoor.Wh
end
section
set_option linter.unusedVariables false
set_option linter.unusedSimpArgs false
namespace Go.Proofs.YtpdghgfbfmaplaaGreatDoor.Wh
open Go.RowKit Go.Proofs.YtpdghgfbfmaplaaGreatDoorW.PrintWords Go.Proofs.YtpdghgfbfmaplaaGreatDoor.Num Go.Proofs.YtpdghgfbfmaplaaGreatDoor.Dec
def fcells(x:FV):List Value:=[.bool x.num.b,.slice x.num.A x.num.n x.num.c,.bool x.den.b,.slice x.den.A x.den.n x.den.c]
def fvK:Kd FV where
 sz:=4
 E:=[]
 K:=fun _ x cs=>cs=fcells x
 M:=fun _ _ _ x cs=>cs=fcells x
 K_len:=fun h=>by rw [h];rfl
 K_one:=fun h u hu=>by
  rw [h]at hu;simp only [fcells,List.mem_cons,List.not_mem_nil,or_false]at hu;rcases hu with rfl|rfl|rfl|rfl <;> rfl
 K_below:=fun _ h=>h
 K_of_M:=fun h=>h
 M_mono:=fun _ h=>h
 M_bound:=fun h=>h
 M_move:=fun _ h=>h
 M_lower:=fun _ h=>h
def Fs(P:Nat→Prop)(K:Nat)(w:World)(xs:List FV)(qs:List Rat):Prop:=xs.length=qs.length∧∀(i:Nat) (x:FV) (q:Rat),xs[i]?=some x→qs[i]?=some q→IsF P K w x q
section
variable {P P':Nat→Prop} {K K':Nat} {w w1 W W1:World} {xs:List FV} {qs:List Rat} {x:FV} {q:Rat} {v v1:Value}
theorem IsF.bound(h:IsF P K w x q):IsF (fun k=>P k∧k<w.heap.size) K w x q:=⟨h.1.bound,h.2.bound⟩
theorem IsF.step(h:IsF P K w x q)(hm:∀k,P k→k<w.heap.size→w1.heap[k]?=w.heap[k]?):IsF P K w1 x q:=⟨h.1.step hm,h.2.step hm⟩
theorem Fs.below(h:Fs P K w xs qs)(hb:Below w.heap.size w w1):Fs P K w1 xs qs:=⟨h.1,fun i x q h1 h2=>(h.2 i x q h1 h2).below hb⟩
theorem Fs.mono(h:Fs P K w xs qs)(hP:∀k,P k→P' k):Fs P' K w xs qs:=⟨h.1,fun i x q h1 h2=>(h.2 i x q h1 h2).mono hP⟩
theorem Fs.nil:Fs P K w [] []:=⟨rfl,fun i x q h1 h2=>by simp at h1⟩
theorem Fs.snoc(h:Fs P K w xs qs)(hx:IsF P K w x q):Fs P K w (xs++ [x]) (qs++ [q]):=by
 refine⟨by simp [h.1],fun i y p h1 h2=>?_⟩
 rcases Nat.lt_trichotomy i xs.length with hi|hi|hi
 · rw [List.getElem?_append_left hi]at h1;rw [List.getElem?_append_left (by rw [←h.1];exact hi)]at h2;exact h.2 i y p h1 h2
 · subst hi;rw [List.getElem?_append_right (Nat.le_refl _)]at h1;rw [h.1,List.getElem?_append_right (Nat.le_refl _)]at h2;simp at h1 h2
   rw [←h1,←h2];exact hx
 · rw [List.getElem?_eq_none (by simp;omega)]at h1;cases h1
theorem IsF.grown(h:IsF (fun k=>P k∧some k≠v.ownBlock) K W x q)(hg:W.grownBy w1 v.ownBlock)(hat:v1.ownBlock=v.ownBlock∨∃b,v1.ownBlock=some b∧W.heap.size≤b):IsF (fun k=>P k∧some k≠v1.ownBlock) K w1 x q:=by
 refine((h.bound).step (fun k hk hlt=>hg.block k hlt hk.1.2)).mono (fun k hk=>⟨hk.1.1,?_⟩)
 rcases hat with hat|⟨b,hb,hle⟩
 · rw [hat];exact hk.1.2
 · rw [hb];intro e;have:=hk.2;have:=Option.some.inj e;omega
theorem Fs.grown(h:Fs (fun k=>P k∧some k≠v.ownBlock) K W xs qs)(hg:W.grownBy w1 v.ownBlock)(hat:v1.ownBlock=v.ownBlock∨∃b,v1.ownBlock=some b∧W.heap.size≤b):Fs (fun k=>P k∧some k≠v1.ownBlock) K w1 xs qs :=
 ⟨h.1,fun i x q h1 h2=>(h.2 i x q h1 h2).grown hg hat⟩
end
theorem infoFrac:(Tryz.prog.info? 52).map (fun i=>(i.zero,i.size,i.bytes))=some (some (.agg #[.bool false,.slice none 0 0,.bool false,.slice none 0 0]),4,64):=by kernel_rfl
def PdRel(P:Nat→Prop)(w:World)(bs:List ByteArray)(v4 v11:Value)(W:World):Prop :=
 ∃(k:Nat) (xs:List FV) (qs:List Rat),v11=.int .i64 k∧k≤bs.length∧numsB (bs.take k)=some qs∧Kd.R fvK 52 W w.heap.size (fun _=>True) v4 xs∧Fs (fun k=>P k∧some k≠v4.ownBlock) 34 W xs qs∧Below w.heap.size w W
theorem numsB_len:∀ {l:List ByteArray} {qs:List Rat},numsB l=some qs→l.length=qs.length:=by
 intro l
 induction l with
 | nil=>intro qs h;cases h;rfl
 | cons s l ih =>
  intro qs h;unfold numsB at h
  split at h
  · rename_i x xs h1 h2
    cases h;simp [ih h2]
  · cases h
theorem numsB_snoc{l:List ByteArray}{s:ByteArray}:numsB (l++ [s])=match numsB l,numB s with|some qs,some q=>some (qs++ [q])|_,_=>none:=by
 induction l with
 | nil=>cases h:numB s <;> simp [numsB,h]
 | cons t l ih =>
  rw [List.cons_append,numsB,numsB,ih];cases numB t <;> cases numsB l <;> cases numB s <;> rfl
theorem numsB_none_app{l m:List ByteArray}(h:numsB l=none):numsB (l++m)=none:=by
 induction l with
 | nil=>cases h
 | cons t l ih =>
  rw [List.cons_append,numsB];rw [numsB]at h;cases h1:numB t with
  | none=>rfl
  | some q =>
   cases h2:numsB l with
   | none=>rw [ih h2]
   | some qs=>rw [h1,h2]at h;cases h
theorem c_parsed{P:Nat→Prop}{w:World}{A:Option Addr}{c:Nat}(bs:List ByteArray)(hA:Kd.string.C w A bs.length bs)(hn:bs.length≤1000000000)(hs:∀s∈bs,s.size≤140737488351232)(hP:∀k,w.heap.size≤k→P k) :
 Calls Tryz.prog 45 #[.slice A bs.length c] w fun e w'=>((∃(qs:List Rat) (xs:List FV) (v:Value),numsB bs=some qs∧e=.returned (.tuple #[v,.bool true])∧Kd.R fvK 52 w' w.heap.size (fun _=>True) v xs∧Fs P 34 w' xs qs)∨(numsB bs=none∧e=.returned (.tuple #[.slice none 0 0,.bool false])))∧Below w.heap.size w w':=by
 have HP:=Lib.hid hP
 have HS:=Lib.hid hs
 have HA:=Lib.hid hA
 clear hP hs hA
 go_enter Tryz.func45,Tryz.ntmps45
 go_wp2_with fail
 go_loopw [4,11] (fun v4 v11 W=>PdRel P w bs v4 v11 W) (fun _ v11 _=>bs.length-(intOf v11).toNat)
 case atStart=>exact ⟨0,[],[],rfl,Nat.zero_le _,rfl,Kd.R_nil _ _ _ _ _,Fs.nil,Below.refl _ _⟩
 case round =>
  obtain⟨k,xs,qs,rfl,hk,hq,hR,hF,hB⟩:=hrel;have HQ:=Lib.hid hq;have HR:=Lib.hid hR;have HF:=Lib.hid hF;have HB:=Lib.hid hB;have hlx:xs.length=k:=by rw [hF.1,←numsB_len hq,List.length_take];omega
  have HLX:=Lib.hid hlx;clear hq hR hF hB hlx;by_cases hlt:k<bs.length
  · obtain⟨ad,hadd,hcell⟩:=Kd.at_string (Kd.C_below HA.out HB.out) (k:Int) (by omega) (by omega);rw [Int.toNat_natCast]at hcell;obtain⟨s,hs⟩:∃s,s=bs[k]'hlt:=⟨_,rfl⟩;rw [show rdOf ByteArray.empty bs (k:Int)=s by rw [hs];simp [rdOf,hlt]]at hcell;have hsz:s.data.toList.length≤140737488351232:=by rw [data_length];exact HS.out s (by rw [hs];exact List.getElem_mem hlt)
    have HT:=Lib.hid (show bs.take (k+1)=bs.take k++ [s] by rw [hs];exact List.take_succ_eq_append_getElem hlt);have HSZ:=Lib.hid hsz;subst hadd;clear hs hsz;have hlt':(k:Int)<(bs.length:Int):=by omega
    have hk0:(0:Int)≤(k:Int):=by omega
    have HFR:=Lib.hid (show ∀j,wr.heap.size≤j→P j∧some j≠u4.ownBlock from fun j hj=>⟨HP.out j (Nat.le_trans HB.out.size hj),fun e=>by
     obtain⟨inner,ho⟩:=Kd.R_own HR.out;have:=own_lt ho j e.symm
     omega⟩)
    go_wp2_with fail
    rw [sg_of s];refine(c_FParse (P:=fun j=>P j∧some j≠u4.ownBlock) s.data.toList HSZ.out HFR.out).mono ?_;rintro e w1 ⟨hp,hb1⟩;rcases hp with ⟨q,x,e1,e2,rfl,hx⟩|⟨hno,x,rfl⟩
    · have HX:=Lib.hid hx;have HN:=Lib.hid (numB_some.2 ⟨bs_of e1,e2⟩);have HB1:=Lib.hid hb1;obtain⟨A4,c4,rfl⟩:=Kd.R_slice HR.out;clear hx e1 e2 hb1;have HB2:=Lib.hid (show Below w.heap.size w (w1.alloc (.cells #[.bool x.num.b,.slice x.num.A x.num.n x.num.c,.bool x.den.b,.slice x.den.A x.den.n x.den.c] 52))from (have hb9:=bl_call HB.out HB1.out;blq));have HR2:=Lib.hid (Kd.R_below (w1:=w1.alloc (.cells #[.bool x.num.b,.slice x.num.A x.num.n x.num.c,.bool x.den.b,.slice x.den.A x.den.n x.den.c] 52)) HR.out (have hb9:=HB1.out;blq));have HF2:=Lib.hid ((HF.out.below (w1:=w1.alloc (.cells #[.bool x.num.b,.slice x.num.A x.num.n x.num.c,.bool x.den.b,.slice x.den.A x.den.n x.den.c] 52)) (have hb9:=HB1.out;blq)).snoc (HX.out.below blq));have hkx:xs.length≤1000000000:=by rw [HLX.out];omega
      clear HR HF HX;go_wp2_with (at_builtin;go_must (refine Kd.R_append fvK (w0:=w) w.heap.size rfl (.tmp 22) (.tmp 24) 45 52 (.agg #[.bool false,.slice none 0 0,.bool false,.slice none 0 0]) 64 rfl Tryz.underlying45 infoFrac rfl (by decide) (by decide) (.slice A4 xs.length c4) xs x [.bool x.num.b,.slice x.num.A x.num.n x.num.c,.bool x.den.b,.slice x.den.A x.den.n x.den.c] (fun _=>True) (fun _=>False) rfl (by simp only [World.alloc,Array.size_push];rfl) rfl (fun _ hk=>hk.elim) (fun _ _=>trivial) HR2.out HB2.out HB2.out.size (by omega) ?_);intro v9 w9 hr9 hb9 hg9 hat9;have HR9:=Lib.hid hr9;have HB9:=Lib.hid hb9;have HF9:=Lib.hid (HF2.out.grown hg9 hat9);clear hr9 hb9 hg9 hat9)
      go_roundw
      case rel =>
       refine⟨k+1,xs++ [x],qs++ [q],by go_num,hlt,?_,HR9.out,HF9.out,HB9.out⟩;rw [HT.out,numsB_snoc,HQ.out,HN.out]
      case measure=>simp [intOf];omega
    · have HN:=Lib.hid (show numB s=none from numOf_none.2 hno);have HB1:=Lib.hid (bl_call HB.out hb1);clear hno hb1;go_wp2_with fail
      go_ret2
      refine⟨.inr ⟨?_,rfl⟩,?_⟩
      · have e1:=numsB_snoc (l:=bs.take k) (s:=s);rw [HQ.out,HN.out]at e1;rw [←List.take_append_drop (k+1) bs,HT.out];exact numsB_none_app e1
      · have hb9:=HB1.out;exact blq
  · obtain rfl:k=bs.length:=by omega
    have HQ2:=Lib.hid (show numsB bs=some qs by have:=HQ.out;rwa [List.take_length]at this);clear HQ;go_wp2_with fail
    go_ret2
    exact⟨.inl ⟨qs,xs,u4,HQ2.out,rfl,HR.out,HF.out.mono (fun _ hk=>hk.1)⟩,HB.out⟩
end Go.Proofs.YtpdghgfbfmaplaaGreatDoor.Wh
end
