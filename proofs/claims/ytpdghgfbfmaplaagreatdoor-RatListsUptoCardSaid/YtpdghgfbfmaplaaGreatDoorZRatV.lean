/- Lemmas for RatLists. -/
import Derived.Test.YtpdghgfbfmaplaaGreatDoorZRatG
set_option maxRecDepth 100000
set_option maxHeartbeats 8000000
section
set_option linter.unusedVariables false
set_option linter.unusedSimpArgs false
namespace Go.Proofs.YtpdghgfbfmaplaaGreatDoor.Wh
open Go.RowKit Go.Proofs.YtpdghgfbfmaplaaGreatDoor.Num Go.Proofs.YtpdghgfbfmaplaaGreatDoor.Dec
theorem short_small{q:Rat}(h1:q.num.natAbs<10)(h2:q.den<10):Short q:=by
 unfold Short
 rw [dec_small h1,dec_small h2]
 simp
theorem strF_small{q:Rat}(h0:0≤q.num)(h1:q.num.natAbs<10)(h2:q.den<10)(h3:¬q.den=1):strF q= [dig q.num.natAbs,47,dig q.den]:=by
 unfold strF strW
 rw [if_neg h3,if_neg (by omega),dec_small h1,dec_small h2];rfl
theorem strF_smallm{q:Rat}(h0:q.num<0)(h1:q.num.natAbs<10)(h2:q.den<10)(h3:¬q.den=1):strF q= [45,dig q.num.natAbs,47,dig q.den]:=by
 unfold strF strW
 rw [if_neg h3,if_pos h0,dec_small h1,dec_small h2];rfl
theorem strF_smalli{q:Rat}(h0:0≤q.num)(h1:q.num.natAbs<10)(h3:q.den=1):strF q= [dig q.num.natAbs]:=by
 unfold strF strW
 rw [if_pos h3,if_neg (by omega),dec_small h1]
theorem strF_smallmi{q:Rat}(h0:q.num<0)(h1:q.num.natAbs<10)(h3:q.den=1):strF q= [45,dig q.num.natAbs]:=by
 unfold strF strW
 rw [if_pos h3,if_pos h0,dec_small h1]
theorem nb{q:Rat}(l:List UInt8)(h:strF q=l)(h1:q.num.natAbs<10)(h2:q.den<10):numB (bsOf l)=some q:=by rw [←h];exact numB_str (short_small h1 h2)
theorem tb{q:Rat}(l:List UInt8)(h:strF q=l)(h1:q.num.natAbs<10)(h2:q.den<10):tellB q=(bsOf l,0):=by rw [←h];exact if_pos (short_small h1 h2)
theorem sp(q:Rat)(l:List UInt8)(h:0≤q.num∧q.num.natAbs<10∧q.den<10∧¬q.den=1∧ [dig q.num.natAbs,47,dig q.den]=l):numB (bsOf l)=some q∧tellB q=(bsOf l,0) :=
 have e:=(strF_small h.1 h.2.1 h.2.2.1 h.2.2.2.1).trans h.2.2.2.2
 ⟨nb l e h.2.1 h.2.2.1,tb l e h.2.1 h.2.2.1⟩
theorem sm(q:Rat)(l:List UInt8)(h:q.num<0∧q.num.natAbs<10∧q.den<10∧¬q.den=1∧ [45,dig q.num.natAbs,47,dig q.den]=l):numB (bsOf l)=some q∧tellB q=(bsOf l,0) :=
 have e:=(strF_smallm h.1 h.2.1 h.2.2.1 h.2.2.2.1).trans h.2.2.2.2
 ⟨nb l e h.2.1 h.2.2.1,tb l e h.2.1 h.2.2.1⟩
theorem si(q:Rat)(l:List UInt8)(h:0≤q.num∧q.num.natAbs<10∧q.den<10∧q.den=1∧ [dig q.num.natAbs]=l):numB (bsOf l)=some q∧tellB q=(bsOf l,0) :=
 have e:=(strF_smalli h.1 h.2.1 h.2.2.2.1).trans h.2.2.2.2
 ⟨nb l e h.2.1 h.2.2.1,tb l e h.2.1 h.2.2.1⟩
theorem smi(q:Rat)(l:List UInt8)(h:q.num<0∧q.num.natAbs<10∧q.den<10∧q.den=1∧ [45,dig q.num.natAbs]=l):numB (bsOf l)=some q∧tellB q=(bsOf l,0) :=
 have e:=(strF_smallmi h.1 h.2.1 h.2.2.2.1).trans h.2.2.2.2
 ⟨nb l e h.2.1 h.2.2.1,tb l e h.2.1 h.2.2.1⟩
theorem n12:numB ⟨#[49,47,50]⟩=some (1/2):=(sp (1/2) [49,47,50] (by decide +kernel)).1
theorem n13:numB ⟨#[49,47,51]⟩=some (1/3):=(sp (1/3) [49,47,51] (by decide +kernel)).1
theorem n23:numB ⟨#[50,47,51]⟩=some (2/3):=(sp (2/3) [50,47,51] (by decide +kernel)).1
theorem n32:numB ⟨#[51,47,50]⟩=some (3/2):=(sp (3/2) [51,47,50] (by decide +kernel)).1
theorem n34:numB ⟨#[51,47,52]⟩=some (3/4):=(sp (3/4) [51,47,52] (by decide +kernel)).1
theorem n52:numB ⟨#[53,47,50]⟩=some (5/2):=(sp (5/2) [53,47,50] (by decide +kernel)).1
theorem nm12:numB ⟨#[45,49,47,50]⟩=some (-1/2):=(sm (-1/2) [45,49,47,50] (by decide +kernel)).1
theorem v1:rAdd ⟨#[49,47,50]⟩ ⟨#[49,47,51]⟩=(⟨#[53,47,54]⟩,0):=by
 rw [rAdd,rBin,n12,n13]
 show tellB (1/2+1/3)=_
 rw [show (1/2+1/3:Rat)=5/6 by decide +kernel]
 exact(sp (5/6) [53,47,54] (by decide +kernel)).2
theorem v2:rMul ⟨#[50,47,51]⟩ ⟨#[51,47,50]⟩=(⟨#[49]⟩,0):=by
 rw [rMul,rBin,n23,n32]
 show tellB (2/3*(3/2))=_
 rw [show (2/3*(3/2):Rat)=1 by decide +kernel]
 exact(si (1) [49] (by decide +kernel)).2
theorem v3:rFloor ⟨#[45,49,47,50]⟩=(⟨#[45,49]⟩,0):=by
 rw [rFloor,rUn,nm12]
 show tellB (((-1/2:Rat).floor:Int):Rat)=_
 rw [show ((((-1/2:Rat).floor:Int)):Rat)= -1 by decide +kernel]
 exact(smi (-1) [45,49] (by decide +kernel)).2
theorem v4:rRound ⟨#[53,47,50]⟩=(⟨#[50]⟩,0):=by
 rw [rRound,rUn,n52]
 show tellB (roundQ (5/2))=_
 rw [show roundQ (5/2)=2 by decide +kernel]
 exact(si (2) [50] (by decide +kernel)).2
theorem v5:rSimplest ⟨#[49,47,51]⟩ ⟨#[49,47,50]⟩=(⟨#[49,47,50]⟩,0):=by
 rw [rSimplest,n12,n13]
 show(if _ then _ else _)=_
 rw [if_neg (by decide +kernel),if_neg (by decide +kernel),if_neg (by decide +kernel),show simpQ (1/3) (1/2)=1/2 by decide +kernel]
 exact(sp (1/2) [49,47,50] (by decide +kernel)).2
theorem v6:rCommon [⟨#[49,47,50]⟩,⟨#[51,47,52]⟩]=(⟨#[49,47,52]⟩,0):=by
 rw [rCommon,show numsB [⟨#[49,47,50]⟩,⟨#[51,47,52]⟩]=some [1/2,3/4] by rw [numsB,numsB,numsB,n12,n34]]
 show(if _ then _ else tellB ([3/4].foldl commQ (1/2)))=_
 rw [if_neg (by decide +kernel),show [(3/4:Rat)].foldl commQ (1/2)=1/4 by decide +kernel]
 exact(sp (1/4) [49,47,52] (by decide +kernel)).2
theorem v7:rMultiple ⟨#[51,47,50]⟩ ⟨#[49,47,50]⟩=(true,0):=by
 rw [rMultiple,n32,n12]
 show(if _ then _ else _)=_
 rw [if_neg (by decide +kernel)]
 decide +kernel
theorem v8:rIs ⟨#[50,47,52]⟩=false:=by
 rw [rIs,show numB ⟨#[50,47,52]⟩=none from numOf_none.2 (fun q h _=>?_)]
 · rfl
 · have h2:strW 2++47 :: strW 4=strF q:=by rw [←h];unfold strW;rw [if_neg (by decide),if_neg (by decide),dec_small (by decide),dec_small (by decide)];decide
   obtain⟨e1,e2,-⟩:=strF_two h2;have:=rat_red q;rw [e1,e2]at this;exact absurd this (by decide)
theorem v9:rIs ⟨#[45,48]⟩=false:=by
 rw [rIs,show numB ⟨#[45,48]⟩=none from numOf_none.2 (fun q h _=>?_)]
 · rfl
 · have h0:([45,48]:List UInt8)=strF q:=h;obtain⟨z,hz⟩:=strF_whole h0 (by decide);unfold strW at hz
   split at hz
   · have h3:=(List.cons.inj hz).2;have h4:dec z.natAbs=dec 0:=by rw [←h3,dec_zero]
     have:=dec_inj h4;omega
   · have:=dec_digs z.natAbs 45 (by rw [←hz];simp);exact absurd this (by decide)
theorem v10:rIs ⟨#[49,47,49]⟩=false:=by
 rw [rIs,show numB ⟨#[49,47,49]⟩=none from numOf_none.2 (fun q h _=>?_)]
 · rfl
 · have h2:strW 1++47 :: strW 1=strF q:=by rw [←h];unfold strW;rw [if_neg (by decide),dec_small (by decide)];decide
   obtain⟨e1,e2,e3⟩:=strF_two h2;omega
section
variable {w:World}
theorem c_alive:Calls Tryz.prog 13 #[] w fun e w'=>e=.returned (.bool true)∧Below w.heap.size w w':=by
 have H1:=Lib.hid (fun(W:World)=>(c_rAdd (w:=W) ⟨#[49,47,50]⟩ ⟨#[49,47,51]⟩ (by decide) (by decide)))
 have H2:=Lib.hid (fun(W:World)=>(c_rMul (w:=W) ⟨#[50,47,51]⟩ ⟨#[51,47,50]⟩ (by decide) (by decide)))
 have H3:=Lib.hid (fun(W:World)=>(c_rFloor (w:=W) ⟨#[45,49,47,50]⟩ (by decide)))
 have H4:=Lib.hid (fun(W:World)=>(c_rRound (w:=W) ⟨#[53,47,50]⟩ (by decide)))
 have H5:=Lib.hid (fun(W:World)=>(c_rSimplest (w:=W) ⟨#[49,47,51]⟩ ⟨#[49,47,50]⟩ (by decide) (by decide)))
 have H7:=Lib.hid (fun(W:World)=>(c_rMultiple (w:=W) ⟨#[51,47,50]⟩ ⟨#[49,47,50]⟩ (by decide) (by decide)))
 rw [v1]at H1
 rw [v2]at H2
 rw [v3]at H3
 rw [v4]at H4
 rw [v5]at H5
 rw [v7]at H7
 go_enter Tryz.func13,Tryz.ntmps13
 go_wp2_with fail
 refine(H1.out _).mono ?_
 rintro e w1 ⟨rfl,hb1⟩
 go_wp2_with fail
 refine(H2.out _).mono ?_
 rintro e w2 ⟨rfl,hb2⟩
 go_wp2_with fail
 refine(H3.out _).mono ?_
 rintro e w3 ⟨rfl,hb3⟩
 go_wp2_with fail
 refine(H4.out _).mono ?_
 rintro e w4 ⟨rfl,hb4⟩
 go_wp2_with fail
 refine(H5.out _).mono ?_
 rintro e w5 ⟨rfl,hb5⟩
 go_wp2_with fail
 refine(c_rCommon [⟨#[49,47,50]⟩,⟨#[51,47,52]⟩] (strs_two _ _ _) (by simp) (by intro s hs;simp at hs;rcases hs with rfl|rfl <;> decide)).mono ?_
 rintro e w6 ⟨rfl,hb6⟩
 rw [v6]
 go_wp2_with fail
 refine(H7.out _).mono ?_
 rintro e w7 ⟨rfl,hb7⟩
 go_wp2_with fail
 refine(c_rIs' ⟨#[50,47,52]⟩ (by decide) v8).mono ?_
 rintro e w8 ⟨rfl,hb8⟩
 go_wp2_with fail
 refine(c_rIs' ⟨#[45,48]⟩ (by decide) v9).mono ?_
 rintro e w9 ⟨rfl,hb9⟩
 go_wp2_with fail
 refine(c_rIs' ⟨#[49,47,49]⟩ (by decide) v10).mono ?_
 rintro e w10 ⟨rfl,hb10⟩
 go_wp2_with fail
 go_ret
 exact⟨rfl,blq⟩
end
end Go.Proofs.YtpdghgfbfmaplaaGreatDoor.Wh
end
