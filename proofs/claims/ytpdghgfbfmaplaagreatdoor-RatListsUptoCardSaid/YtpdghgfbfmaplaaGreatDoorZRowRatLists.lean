/- The statement RatLists: its tied card, by the contract of the law's walk; it holds for every input that the row speaks of, and no condition is added. -/
import Derived.Test.YtpdghgfbfmaplaaGreatDoorRows
import Derived.Test.YtpdghgfbfmaplaaGreatDoorCards
import Derived.Test.YtpdghgfbfmaplaaGreatDoorTie
import Derived.Test.YtpdghgfbfmaplaaGreatDoorZLLists
import Derived.ProofKit
import Derived.OpenShut
import Derived.SliceStrings
import Derived.ChangeSame
import Derived.Deep.DeepHandedRow
import Derived.SizedLaws
import Derived.LaidMore
import Derived.Lay
set_option maxRecDepth 100000
set_option maxHeartbeats 8000000
section
namespace Go.Proofs.YtpdghgfbfmaplaaGreatDoor.ratLists
open Go.ChangeShapes Go.WideShapes Go.ChangeAt Go.RowKit Go.Proofs.YtpdghgfbfmaplaaGreatDoorW.PrintWords
set_option linter.unusedVariables false
set_option maxRecDepth 100000
theorem own:ownKnob Tryz.prog.godebug=none:=by kernel_rfl
theorem cells9:Tryz.prog.cellsOf 9=1:=by kernel_rfl
theorem bulk_mem{H:Type}:∀(l:List ByteArray),Rf.tot l≤4*Rows.uptoBulkAll (l.map fun s=>DataW.lit (H:=H) (.string s.data.toList))
 | []=>Nat.zero_le _
 | s :: l=>by
  have:=bulk_mem (H:=H) l;simp only [List.map_cons,Rf.tot,Rows.uptoBulkAll,Rows.uptoBulk];have:s.data.toList.length=s.size:=by rw [Array.length_toList];rfl
  omega
theorem arg_open{H:Type}{enc:TypeId×Value→H}{W:World}{base:Nat}{v0:Value}{d0:DataW H}{p:List MemPlace}(hval:Value.okWide Tryz.prog W .any base 36 v0)(h0:DataW.Trod enc Tryz.prog W 0 (fun _=>true) true 36 v0 d0 p)(hbk:Rows.uptoBulk d0≤1048576) :
 ∃(a0:Option Addr) (l:List ByteArray) (cap:Nat),v0=.slice a0 l.length cap∧Kd.string.C W a0 l.length l∧Rf.tot l≤1000000000000:=by
 obtain⟨a0,len,cap,rfl⟩:=okWide_slice Tryz.underlying36 hval
 obtain⟨fuel,hf⟩:=h0
 rcases open_strings Tryz.underlying36 Tryz.underlying9 cells9 hf with ⟨hcs,hx⟩|⟨a,len',cap',ss,hcs,_,hl,hm,hz,hx,hcell,hws⟩
 · simp [Value.cells]at hcs
   obtain⟨rfl,rfl,rfl⟩:=hcs;exact⟨none,[],0,rfl,⟨rfl,by decide,fun h=>absurd h (by decide)⟩,Nat.zero_le _⟩
 · simp [Value.cells]at hcs
   obtain⟨rfl,rfl,rfl⟩:=hcs;simp only [Prod.mk.injEq]at hx;obtain⟨rfl,rfl⟩:=hx;simp only [if_true]at hz;have hlen:(ss.take len).length=len:=by rw [List.length_take];omega
   refine⟨some a,ss.take len,cap,by rw [hlen],?_,?_⟩
   · rw [hlen];refine Kd.C_of_reads (enc:=Value.string) (d:=ByteArray.empty) (h1:=fun _=>rfl) ⟨hlen,by unfold maxLen at hm;omega,fun _=>⟨a,rfl,fun j hj=>?_⟩⟩;rw [hcell j (by omega)];simp [List.getD_eq_getElem?_getD,hj]
   · have h2:=bulk_mem (H:=H) (ss.take len);have h3:Rows.uptoBulkAll (H:=H) (strs (ss.take len))≤1048576:=by
      simp only [Rows.uptoBulk]at hbk;omega
     have h4:(strs (ss.take len):List (DataW H))=(ss.take len).map fun s=>DataW.lit (H:=H) (.string s.data.toList):=rfl
     rw [h4]at h3;omega
theorem contract(H:Type)(enc:TypeId×Value→H)(W:World)(base:Nat)(args:Array Value)(ds gs:List (DataW H))(before:List MemPlace)
 (hval:∀(j:Nat) t v,Tryz.f7.params[j]?=some t→args[j]?=some v→Value.okWide Tryz.prog W .any base t v)
 (hW:DataW.Whole enc Tryz.prog Tryz.f7.params.toList Rows.ratListsSpec.vars false W args.toList ds gs before) (hk:Rows.uptoSmall H (ds++gs)=true) :
 Calls Tryz.prog 7 args W fun e W'=>∃v,e=.returned v∧Rows.ratListsSpec.post enc Tryz.prog Tryz.f7 false true false false W args v W':=by
 have hW':=hW
 obtain⟨p,q,hA0,hV,rfl,_,_⟩:=hW
 have hA:DataW.TrodAll enc Tryz.prog W 0 (fun _=>true) true Tryz.f7.params.toList args.toList ds p:=hA0
 rw [Tryz.params7]at hA hval
 obtain⟨v0,vs0,d0,ds0,p0,q0,hargs,rfl,rfl,h0,r0⟩:=trodAll_cons hA
 obtain⟨v1,vs1,d1,ds1,p1,q1,rfl,rfl,rfl,h1,r1⟩:=trodAll_cons r0
 obtain⟨rfl,rfl,rfl⟩:=trodAll_nil r1
 obtain rfl:args= #[v0,v1]:=by cases args;simp_all
 obtain⟨rfl,rfl⟩:=trodVars_none hV
 have hbk:Rows.uptoBulkAll ([d0,d1]++ [])≤1048576:=of_decide_eq_true hk
 have hb0:Rows.uptoBulk d0≤1048576:=by simp only [List.append_nil,Rows.uptoBulkAll]at hbk;omega
 have hb1:Rows.uptoBulk d1≤1048576:=by simp only [List.append_nil,Rows.uptoBulkAll]at hbk;omega
 obtain⟨a0,l,c0,rfl,hC0,hT0⟩:=arg_open (hval 0 36 v0 rfl rfl) h0 hb0
 obtain⟨a1,m,c1,rfl,hC1,hT1⟩:=arg_open (hval 1 36 v1 rfl rfl) h1 hb1
 simp only [List.append_nil]at hW' hk
 have hl0:∀x∈p0,x.block<W.heap.size:=fun x hx=>by simpa using hW'.lt x (List.mem_append_left _ hx)
 have hl1:∀x∈p1,x.block<W.heap.size:=fun x hx=>by simpa using hW'.lt x (List.mem_append_right _ hx)
 have g0:∀(W':World),Below W.heap.size W W'→DataW.Trod enc Tryz.prog W' 0 (fun b=>decide (b<W.heap.size)) true 36 (.slice a0 l.length c0) d0 p0 :=
  fun W' hn=>Below.trod (by kernel_rfl) (by kernel_rfl) (of_decide_eq_true (by kernel_rfl)) h0 hn hl0
 have g1:∀(W':World),Below W.heap.size W W'→DataW.Trod enc Tryz.prog W' 0 (fun b=>decide (b<W.heap.size)) true 36 (.slice a1 m.length c1) d1 p1 :=
  fun W' hn=>Below.trod (by kernel_rfl) (by kernel_rfl) (of_decide_eq_true (by kernel_rfl)) h1 hn hl1
 refine(Rf.c_RatLists (c:=c0) (c':=c1) l m hC0 hC1 hT0 hT1).mono ?_
 rintro e W' ⟨rfl,hb⟩
 refine⟨_,rfl,_,_,_,[],p0++(p1++ []),[],hW',?_,?_,rfl,hb.frame _,fun h=>by cases h⟩
 · exact trodAll_mk1 (shut_bool Tryz.underlying4 _)
 · exact trodAll_cons_mk (g0 _ hb) (trodAll_cons_mk (g1 _ hb) trodAll_mk0)
theorem reads(os:Os){H:Type}(enc:TypeId×Value→H):∃places,DataW.whole enc Tryz.prog ((World.laidAll Tryz.prog os Rows.ratListsUptoRow.laid).forCall (fun _ _=>0) ⟨#[],#[.slice none 0 0,.slice none 0 0],[]⟩).memory Tryz.f7.params.toList Rows.ratListsSpec.vars false #[Value.slice none 0 0,Value.slice none 0 0].toList 8=some ([.nil,.nil],[],places) :=
 ⟨[],by kernel_rfl⟩
theorem lifted(os:Os)(started:os.Started)(H:Type)(enc:TypeId×Value→H)(F:Stop.Interp) :
 ReturnsInHanded {} Tryz.checked os 7 .any ((Rows.OpenSpec.upto Rows.ratListsSpec).preRow enc Tryz.prog Tryz.f7 Rows.ratListsUptoRow.domain false Rows.ratListsUptoRow.laid) (((Rows.OpenSpec.upto Rows.ratListsSpec).at F).post enc Tryz.prog Tryz.f7 false true false false):=by
 obtain⟨places,hx⟩:=reads os enc
 refine returnsInHanded_of_row (C:=Tryz.checked) (s:=Rows.OpenSpec.upto Rows.ratListsSpec) own started (by kernel_rfl) Tryz.func7
  (witness_row_at (enc:=enc) (C:=Tryz.checked) false (World.laidAll Tryz.prog os Rows.ratListsUptoRow.laid) #[.slice none 0 0,.slice none 0 0] rfl (by kernel_rfl) (by kernel_rfl) (by kernel_rfl)
   (OpenSpec.preRow_of_cond 8 hx (by kernel_rfl) (fun k hk=>by cases hk;kernel_rfl) (by kernel_rfl) (laidMet_laidAll _ (by kernel_rfl) (by kernel_rfl)))) ?_
 intro W base args ds gs before hval hW a1 a2 a3 a4 a5 a6
 exact contract H enc W base args ds gs before hval hW (by first|exact a5 _ rfl|exact a6 _ rfl|exact a1 _ rfl|exact a2 _ rfl)
theorem said:Rows.RatListsUptoSaid :=
 OpenClaim.holds_of_cond 7 Tryz.f7 rfl rfl rfl rfl rfl rfl rfl ⟨rfl,rfl,rfl,rfl,rfl⟩ rfl rfl rfl rfl rfl (by kernel_rfl) Tryz.func7 (by kernel_rfl)
  (of_decide_eq_true (by kernel_rfl)) (by unfold Func.isWrapper;first|(rw [if_pos (by decide +kernel)];kernel_rfl)|(rw [if_neg (by decide +kernel)];exact⟨rfl,rfl⟩))
  (fun os started H enc _ F=>by rw [OpenClaim.pre_eq_preRow];exact lifted os started H enc F)
theorem plain(f : FuncId)(fn : Func)(hf : Tryz.pinned.checked.prog.funcNamed "linkwork/linkworklaw01.RatLists" = some f)(hfn : Tryz.pinned.checked.prog.funcs[f]? = some fn) :
 false=Tryz.pinned.checked.prog.looks []∧∀(j:Nat) t,fn.params[j]?=some t→Tryz.pinned.checked.prog.wantsStandIn t=false:=by
 obtain rfl : f = 7 := Option.some.inj ((show Tryz.prog.funcNamed "linkwork/linkworklaw01.RatLists" = some 7 by kernel_rfl).symm.trans hf) |>.symm
 obtain rfl:fn=Tryz.f7:=(Option.some.inj (Tryz.func7.symm.trans hfn)).symm
 refine⟨by kernel_rfl,fun j t ht=>?_⟩
 rw [Tryz.params7]at ht
 obtain rfl:t=36:=by simpa using Array.mem_of_getElem? ht
 exact(show Tryz.prog.wantsStandIn 36=false by kernel_rfl)
theorem card:Rows.RatListsUptoCardSaid :=
 Claim7.holds_tied_plain_at .later [] _ _ _ _ said (fun _ h=>by cases h) (by kernel_rfl) (fun _ h=>by cases h) ratListsUpto_row_tie rfl ⟨rfl,rfl⟩ (by kernel_rfl) rfl plain (by kernel_rfl)
end Go.Proofs.YtpdghgfbfmaplaaGreatDoor.ratLists
namespace Go.Proofs.YtpdghgfbfmaplaaGreatDoor
theorem ratLists_card:Rows.RatListsUptoCardSaid:=ratLists.card
end Go.Proofs.YtpdghgfbfmaplaaGreatDoor
end
