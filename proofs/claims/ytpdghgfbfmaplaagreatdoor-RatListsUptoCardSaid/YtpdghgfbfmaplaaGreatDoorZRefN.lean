/- Lemmas for RatLists. -/
import Derived.Test.YtpdghgfbfmaplaaGreatDoorZRefL
set_option maxRecDepth 100000
set_option maxHeartbeats 8000000
section
set_option linter.unusedVariables false
set_option linter.unusedSimpArgs false
namespace Go.Proofs.YtpdghgfbfmaplaaGreatDoor.Rf
open Go.RowKit Go.Proofs.YtpdghgfbfmaplaaGreatDoorW.PrintWords Go.Proofs.YtpdghgfbfmaplaaGreatDoor.Num Go.Proofs.YtpdghgfbfmaplaaGreatDoor.PRef Go.Proofs.YtpdghgfbfmaplaaGreatDoor.WhC Go.Proofs.YtpdghgfbfmaplaaGreatDoor.Dec Go.Proofs.YtpdghgfbfmaplaaGreatDoor.Wh
def TotRel(w0:World)(S ds:List Rat)(K st:Nat)(v:Value)(W:World):Prop :=
 ∃(k:Nat) (o:QV),v=.int .i64 k∧k≤ds.length∧IsQ (Gp (fun _=>True) w0.heap.size 1) (K+st*k) W o ((ds.take k).foldl (· + ·) 0)∧Fr [(w0.heap.size,0,(.bool o.b)),(w0.heap.size,1,(.slice o.nA o.nn o.nc)),(w0.heap.size,2,(.slice o.dA o.dn o.dc))] (w0.heap.size+1) W∧Below w0.heap.size w0 W
theorem TotRel.mk'{w0 W:World}{S ds:List Rat}{K st k:Nat}{o:QV}(h1:k≤ds.length)(h2:IsQ (Gp (fun _=>True) w0.heap.size 1) (K+st*k) W o ((ds.take k).foldl (· + ·) 0))(h3:Fr [(w0.heap.size,0,(.bool o.b)),(w0.heap.size,1,(.slice o.nA o.nn o.nc)),(w0.heap.size,2,(.slice o.dA o.dn o.dc))] (w0.heap.size+1) W)(h4:Below w0.heap.size w0 W):TotRel w0 S ds K st (.int .i64 k) W:=⟨k,o,rfl,h1,h2,h3,h4⟩
theorem zip_at{qs ps:List Rat}{k:Nat}{q p:Rat}(h1:qs[k]?=some q)(h2:ps[k]?=some p):(List.zipWith (· * ·) qs ps)[k]?=some (q*p):=by rw [List.getElem?_zipWith,h1,h2]
section
variable {w:World}
theorem q_rTotal{A:Option Addr}{c:Nat}(bs:List ByteArray)(hAbs:Kd.string.C w A bs.length bs)(hnbs:bs.length≤300)(hsbs:∀s∈bs,s.size≤140737488351232) :
 Calls Tryz.prog 32 #[.slice A bs.length c] w fun e w'=>e=.returned (.tuple #[.string (rTotal bs).1,.int .i64 (rTotal bs).2])∧Below w.heap.size w w':=by
 have HAbs:=Lib.hid hAbs
 have HSbs:=Lib.hid hsbs
 have HNbs:=Lib.hid hnbs
 clear hAbs hsbs hnbs
 go_enter Tryz.func32,Tryz.ntmps32
 go_wp2_with fail
 refine(q_list (P:=fun _=>True) bs HAbs.out (by have:=HNbs.out;omega) HSbs.out (fun _ _=>trivial)).mono ?_
 rintro e w1 ⟨⟨qs,xs,v,hq,rfl,hR,hFs⟩|⟨hno,rfl⟩,hb1⟩
 · have HE:=Lib.hid (show rTotal bs=tellB (qs.foldl (· + ·) 0) by rw [rTotal,hq]);have hl:qs.length≤300:=by rw [←numsB_len hq];exact HNbs.out
   obtain⟨A4,c4,rfl⟩:=Kd.R_slice hR;have HR1:=Lib.hid hR;have HFS1:=Lib.hid hFs;have HB1:=Lib.hid hb1;obtain⟨n,hn⟩:∃n,xs.length=n:=⟨_,rfl⟩;have HNX:=Lib.hid (show qs.length=n by rw [←hn,hFs.1]);rw [hn];clear hq hR hFs hb1;go_wp2_with fail
   refine(q_Of (P:=fun _=>True) 0 (by decide) (by decide) (fun _ _=>trivial)).mono ?_;rintro e w2 ⟨o0,rfl,ho0,hb2⟩;have HB2:=Lib.hid hb2;have HFS:=Lib.hid ((HFS1.out.below hb2).gap 1);have HR0:=Lib.hid (show TotRel w2 qs qs 75 76 (.int .i64 (0:Nat)) (w2.alloc (.cells #[.bool o0.b,.slice o0.nA o0.nn o0.nc,.slice o0.dA o0.dn o0.dc] 60))from TotRel.mk' (Nat.zero_le _) (((ho0.gap 1).wide (by omega)).below blq) ((Fr.nil (Nat.le_refl _)).new3 _ _ _ _) blq);clear ho0 hb2 HFS1;go_wp2_with fail
   go_loopw [7] (fun v W=>TotRel w2 qs qs 75 76 v W) (fun v _=>qs.length-(intOf v).toNat)
   case atStart=>exact HR0.out
   case round =>
    obtain⟨k,o,rfl,hk,ho,hf,hb⟩:=hrel;have HO:=Lib.hid ho;have HF:=Lib.hid (show Fr [(w2.heap.size,0,(.bool o.b)),(w2.heap.size,1,(.slice o.nA o.nn o.nc)),(w2.heap.size,2,(.slice o.dA o.dn o.dc))] (w2.heap.size+1) wr from hf);have HB:=Lib.hid hb;have hzr:w2.heap.size+1≤wr.heap.size:=HF.out.1;have hzl:w2.heap.size<wr.heap.size:=by omega
    clear ho hf hb;have q0_0:=HF.out.get 0 rfl;have q0_1:=HF.out.get 1 rfl;have q0_2:=HF.out.get 2 rfl;by_cases hlt:k<qs.length
    · have hk0:(0:Int)≤(k:Int):=by omega
      have hlty:k<xs.length:=by rw [HFS.out.1];exact hlt
      obtain⟨y,hy⟩:∃y,xs[k]?=some y:=⟨xs[k]'hlty,List.getElem?_eq_getElem _⟩;obtain⟨q,hq⟩:∃q,qs[k]?=some q:=⟨qs[k]'(by rw [←HFS.out.1];exact hlty),List.getElem?_eq_getElem _⟩;obtain⟨g,rfl,hg⟩:=row_q HR1.out hlty;have HY:=Lib.hid ((HFS.out.2 k y q hy hq).below HB.out);have hgw:g<wr.heap.size:=Nat.lt_of_lt_of_le hg.1 (Nat.le_trans HB2.out.size HB.out.size);have HGN:¬g=w2.heap.size:=by have:=hg.1;have h9:=HB2.out.size;omega
      have hlty':(k:Int)<(n:Int):=by have:=hlty;omega
      have HFe:=Lib.hid (row_fr (hg.below (bl_call HB2.out HB.out)) hy HF.out);have HTK:=Lib.hid (fold_snoc (f:=(· + ·)) (z:=0) hq);obtain⟨u,hu⟩:∃u,(qs.take k).foldl (· + ·) 0=u:=⟨_,rfl⟩;rw [hu]at HTK HO;have HKK:=Lib.hid (show 75+76*k≤1000000 by omega);have HPW:=Lib.hid (show ∀k',wr.heap.size≤k'→Gp (fun _=>True) w2.heap.size 1 k' from fun k' hk'=>⟨trivial,.inr (by omega)⟩);clear hy hq hg hu;obtain⟨_,_,_,-⟩:=HFe.out.alls 3 3;go_wp2_with fail
      refine OrdL.begin_ (S:=fun W=>W.cell? ⟨w2.heap.size,0,none⟩=some (.bool o.b)∧W.cell? ⟨w2.heap.size,1,none⟩=some (.slice o.nA o.nn o.nc)∧W.cell? ⟨w2.heap.size,2,none⟩=some (.slice o.dA o.dn o.dc)∧W.cell? ⟨g,k*3,none⟩=some (.bool y.b)∧W.cell? ⟨g,k*3+1,none⟩=some (.slice y.nA y.nn y.nc)∧W.cell? ⟨g,k*3+2,none⟩=some (.slice y.dA y.dn y.dc)) [] [6] (by kernel_rfl) ?_ (fun hHeld=>?_);focus ((try dsimp only);exact(HFe.out.go blq).all 0 6)
      refine OrdL.tk 0 (some 22) ?_;refine nw ?_;refine OrdL.tk 1 (some 23) ?_;refine nw ?_;refine OrdL.tk 2 (some 24) ?_;refine nw ?_;refine OrdL.tk 3 (some 25) ?_;refine nw ?_;refine OrdL.tk 4 (some 26) ?_;refine nw ?_;refine OrdL.st 5 fun Kc hKc=>?_
      refine nv ?_;go_simp
      refine(q_Plus (P:=Gp (fun _=>True) w2.heap.size 1) (K:=75+76*k) (HO.out.below blq) ((HY.out.wide (by omega)).below blq) (by have:=HKK.out;omega) (fun k' hk'=>HPW.out k' (Nat.le_trans arq hk'))).mono ?_;rintro e w11 ⟨r,rfl,hr,hb11⟩;have HF11:=fgo w11 HFe;have hz11:=HF11.out.1;have hx11_0:w2.heap.size<w11.heap.size:=(by omega);have hx11_1:g<w11.heap.size:=(by omega);obtain⟨_,_,_,_,_,_,-⟩:=HF11.out.alls 0 6;have HR:=Lib.hid (show IsQ (Gp (fun _=>True) w2.heap.size 1) (75+76*k+76) _ r (u+q)from hr.tight (by have h8:=add_bd (B:=10000) (by decide) HO.out.bdn HO.out.bdd HY.out.bdn HY.out.bdd;exact h8.1) (by have h8:=add_bd (B:=10000) (by decide) HO.out.bdn HO.out.bdd HY.out.bdn HY.out.bdd;exact h8.2));clear hr;obtain⟨_,_,_,-⟩:=HF11.out.falls 0 3;go_wp2_with fail
      refine hKc.out _ _ ?_ (fun hHeld=>?_);focus ((try dsimp only);exact(HF11.out.go blq).all 0 6)
      clear hKc Kc;refine nw ?_;refine OrdL.last (i:=6) rfl (by decide) (by decide) (by kernel_rfl) (fun Kc hKc=>?_);refine nv ?_;go_simp
      refine hKc.out _ _ ?_;clear hKc Kc;refine nw ?_;refine OrdL.done (by kernel_rfl) ?_ _;go_wp2_with fail
      go_roundw
      case rel =>
       refine TotRel.mk' (o:=r) (k:=k+1) hlt ?_ ?_ ?_
       · rw [HTK.out,show 75+76*(k+1)=75+76*k+76 by omega];exact(((HR.out.put _ arq arq).put _ arq arq).put _ arq arq)
       · exact(((((HF.out.go blq).sets w2.heap.size 0 (.bool r.b)).sets w2.heap.size 1 (.slice r.nA r.nn r.nc)).sets w2.heap.size 2 (.slice r.dA r.dn r.dc))).eq (by simp [HGN])
       · have hb9:=HB.out;exact blq
      case measure=>simp [intOf];omega
    · obtain rfl:k=qs.length:=by omega
      have HQ:=Lib.hid (show IsQ _ _ wr o (qs.foldl (· + ·) 0) by have h9:=HO.out;rw [List.take_of_length_le (Nat.le_refl _)]at h9;exact h9);have hnk:(n:Int)=(qs.length:Int):=by rw [HNX.out]
      go_wp2_with fail
      refine(q_Out (HQ.out.below blq) (by omega)).mono ?_;rintro e w5 ⟨rfl,hb5⟩;go_wp2_with fail
      go_ret2
      exact⟨by rw [HE.out];rfl,by have hb9:=bl_call (bl_call HB1.out HB2.out) HB.out;exact blq⟩
 · have HE:=Lib.hid (show rTotal bs=(nob,1) by rw [rTotal,hno]);clear hno;go_wp2_with fail
   go_ret2
   exact⟨by rw [HE.out];rfl,blq⟩
theorem q_rDot{A:Option Addr}{c:Nat}(bs:List ByteArray)(hAbs:Kd.string.C w A bs.length bs)(hnbs:bs.length≤300)(hsbs:∀s∈bs,s.size≤140737488351232){A':Option Addr}{c':Nat}(cs:List ByteArray)(hAcs:Kd.string.C w A' cs.length cs)(hncs:cs.length≤300)(hscs:∀s∈cs,s.size≤140737488351232) :
 Calls Tryz.prog 34 #[.slice A bs.length c,.slice A' cs.length c'] w fun e w'=>e=.returned (.tuple #[.string (rDot bs cs).1,.int .i64 (rDot bs cs).2])∧Below w.heap.size w w':=by
 have HAbs:=Lib.hid hAbs
 have HSbs:=Lib.hid hsbs
 have HNbs:=Lib.hid hnbs
 clear hAbs hsbs hnbs
 have HAcs:=Lib.hid hAcs
 have HScs:=Lib.hid hscs
 have HNcs:=Lib.hid hncs
 clear hAcs hscs hncs
 go_enter Tryz.func34,Tryz.ntmps34
 go_wp2_with fail
 refine(q_list (P:=fun _=>True) bs HAbs.out (by have:=HNbs.out;omega) HSbs.out (fun _ _=>trivial)).mono ?_
 rintro e w1 ⟨⟨qs,xs,v,hq,rfl,hR,hFs⟩|⟨hno,rfl⟩,hb1⟩
 · obtain⟨A4,c4,rfl⟩:=Kd.R_slice hR;have HR1:=Lib.hid hR;have HFS1:=Lib.hid hFs;have HQS:=Lib.hid hq;clear hq hR hFs;have HB1:=Lib.hid hb1;clear hb1;go_wp2_with fail
   refine(q_list (P:=fun _=>True) cs (Kd.C_below HAcs.out HB1.out) (by have:=HNcs.out;omega) HScs.out (fun _ _=>trivial)).mono ?_;rintro e w2 ⟨⟨ps,ys,v,hp,rfl,hR,hFs⟩|⟨hno,rfl⟩,hb2⟩
   · obtain⟨A5,c5,rfl⟩:=Kd.R_slice hR;have HR2:=Lib.hid hR;have HFT1:=Lib.hid hFs;have HB2:=Lib.hid hb2;have HL1:=Lib.hid (show qs.length≤300 by rw [←numsB_len HQS.out];exact HNbs.out);have HLX:=Lib.hid (show qs.length=xs.length from HFS1.out.1.symm);have HLY:=Lib.hid (show ps.length=ys.length from hFs.1.symm);by_cases hne:xs.length=ys.length
     · have HE:=Lib.hid (show rDot bs cs=tellB ((List.zipWith (· * ·) qs ps).foldl (· + ·) 0) by rw [rDot,HQS.out,hp];exact if_pos (by rw [HLX.out,HLY.out];exact hne));obtain⟨ds,hds⟩:∃ds,List.zipWith (· * ·) qs ps=ds:=⟨_,rfl⟩;have HDS:=Lib.hid hds;rw [hds]at HE;obtain⟨n,hn⟩:∃n,xs.length=n:=⟨_,rfl⟩;have hn':ys.length=n:=by omega
       have HNX:=Lib.hid (show ds.length=n by rw [←hds,List.length_zipWith,HLX.out,HLY.out];omega);have hl:ds.length≤300:=by rw [HNX.out,←hn,←HLX.out];exact HL1.out
       rw [hn,hn'];clear hp hR hFs hb2 hds hne;go_wp2_with fail
       refine(q_Of (P:=fun _=>True) 0 (by decide) (by decide) (fun _ _=>trivial)).mono ?_;rintro e w3 ⟨o0,rfl,ho0,hb3⟩;have HB3:=Lib.hid hb3;have HFS:=Lib.hid (((HFS1.out.below HB2.out).below hb3).gap 1);have HFT:=Lib.hid ((HFT1.out.below hb3).gap 1);have HR0:=Lib.hid (show TotRel w3 qs ds 150 151 (.int .i64 (0:Nat)) (w3.alloc (.cells #[.bool o0.b,.slice o0.nA o0.nn o0.nc,.slice o0.dA o0.dn o0.dc] 60))from TotRel.mk' (Nat.zero_le _) (((ho0.gap 1).wide (by omega)).below blq) ((Fr.nil (Nat.le_refl _)).new3 _ _ _ _) blq);clear ho0 hb3 HFS1 HFT1;go_wp2_with fail
       go_loopw [11] (fun v W=>TotRel w3 qs ds 150 151 v W) (fun v _=>ds.length-(intOf v).toNat)
       case atStart=>exact HR0.out
       case round =>
        obtain⟨k,o,rfl,hk,ho,hf,hb⟩:=hrel;have HO:=Lib.hid ho;have HF:=Lib.hid (show Fr [(w3.heap.size,0,(.bool o.b)),(w3.heap.size,1,(.slice o.nA o.nn o.nc)),(w3.heap.size,2,(.slice o.dA o.dn o.dc))] (w3.heap.size+1) wr from hf);have HB:=Lib.hid hb;have hzr:w3.heap.size+1≤wr.heap.size:=HF.out.1;have hzl:w3.heap.size<wr.heap.size:=by omega
        clear ho hf hb;have q0_0:=HF.out.get 0 rfl;have q0_1:=HF.out.get 1 rfl;have q0_2:=HF.out.get 2 rfl;by_cases hlt:k<ds.length
        · have hk0:(0:Int)≤(k:Int):=by omega
          have hlty:k<xs.length:=by have h7:=hlt;rw [←HDS.out,List.length_zipWith]at h7;have h8:=HFS.out.1;omega
          obtain⟨y,hy⟩:∃y,xs[k]?=some y:=⟨xs[k]'hlty,List.getElem?_eq_getElem _⟩;obtain⟨q,hq⟩:∃q,qs[k]?=some q:=⟨qs[k]'(by rw [←HFS.out.1];exact hlty),List.getElem?_eq_getElem _⟩;obtain⟨g,rfl,hg⟩:=row_q HR1.out hlty;have HY:=Lib.hid ((HFS.out.2 k y q hy hq).below HB.out);have hgw:g<wr.heap.size:=Nat.lt_of_lt_of_le hg.1 (Nat.le_trans HB2.out.size (Nat.le_trans HB3.out.size HB.out.size));have HGN:¬g=w3.heap.size:=by have:=hg.1;have h8:=HB2.out.size;have h9:=HB3.out.size;omega
          have hlty':(k:Int)<(n:Int):=by have:=hlty;omega
          have hltz:k<ys.length:=by have h7:=hlt;rw [←HDS.out,List.length_zipWith]at h7;have h8:=HFT.out.1;omega
          obtain⟨z,hz⟩:∃z,ys[k]?=some z:=⟨ys[k]'hltz,List.getElem?_eq_getElem _⟩;obtain⟨p,hp⟩:∃p,ps[k]?=some p:=⟨ps[k]'(by rw [←HFT.out.1];exact hltz),List.getElem?_eq_getElem _⟩;obtain⟨g',rfl,hg'⟩:=row_q HR2.out hltz;have HZ:=Lib.hid ((HFT.out.2 k z p hz hp).below HB.out);have hg'w:g'<wr.heap.size:=Nat.lt_of_lt_of_le hg'.1 (Nat.le_trans HB3.out.size HB.out.size);have HGPN:¬g'=w3.heap.size:=by have:=hg'.1;have h9:=HB3.out.size;omega
          have hltz':(k:Int)<(n:Int):=by have:=hltz;omega
          have HFe:=Lib.hid (row_fr2 (hg.below (bl_call (bl_call HB2.out HB3.out) HB.out)) hy (hg'.below (bl_call HB3.out HB.out)) hz HF.out);have HTK:=Lib.hid (fold_snoc (f:=(· + ·)) (z:=0) (show ds[k]?=some (q*p) by rw [←HDS.out];exact zip_at hq hp));obtain⟨u,hu⟩:∃u,(ds.take k).foldl (· + ·) 0=u:=⟨_,rfl⟩;rw [hu]at HTK HO;have HKK:=Lib.hid (show 150+151*k≤1000000 by omega);have HPW:=Lib.hid (show ∀k',wr.heap.size≤k'→Gp (fun _=>True) w3.heap.size 1 k' from fun k' hk'=>⟨trivial,.inr (by omega)⟩);clear hy hq hg hz hp hg' hu;obtain⟨_,_,_,_,_,_,-⟩:=HFe.out.alls 3 6;go_wp2_with fail
          refine OrdL.begin_ (S:=fun W=>W.cell? ⟨w3.heap.size,0,none⟩=some (.bool o.b)∧W.cell? ⟨w3.heap.size,1,none⟩=some (.slice o.nA o.nn o.nc)∧W.cell? ⟨w3.heap.size,2,none⟩=some (.slice o.dA o.dn o.dc)∧W.cell? ⟨g,k*3,none⟩=some (.bool y.b)∧W.cell? ⟨g,k*3+1,none⟩=some (.slice y.nA y.nn y.nc)∧W.cell? ⟨g,k*3+2,none⟩=some (.slice y.dA y.dn y.dc)∧W.cell? ⟨g',k*3,none⟩=some (.bool z.b)∧W.cell? ⟨g',k*3+1,none⟩=some (.slice z.nA z.nn z.nc)∧W.cell? ⟨g',k*3+2,none⟩=some (.slice z.dA z.dn z.dc)) [] [11] (by kernel_rfl) ?_ (fun hHeld=>?_);focus ((try dsimp only);exact(HFe.out.go blq).all 0 9)
          refine OrdL.tk 0 (some 40) ?_;refine nw ?_;refine OrdL.tk 1 (some 41) ?_;refine nw ?_;refine OrdL.tk 2 (some 42) ?_;refine nw ?_;refine OrdL.tk 3 (some 43) ?_;refine nw ?_;refine OrdL.tk 4 (some 44) ?_;refine nw ?_;refine OrdL.tk 5 (some 45) ?_;refine nw ?_;refine OrdL.tk 6 (some 46) ?_;refine nw ?_;refine OrdL.tk 7 (some 47) ?_;refine nw ?_;refine OrdL.tk 8 (some 48) ?_;refine nw ?_;refine OrdL.st 9 fun Kc hKc=>?_
          refine nv ?_;go_simp
          refine(q_Times (P:=Gp (fun _=>True) w3.heap.size 1) (HY.out.below blq) (HZ.out.below blq) (by decide) (fun k' hk'=>HPW.out k' (Nat.le_trans arq hk'))).mono ?_;rintro e w11 ⟨m,rfl,hm,hb11⟩;have HF11:=fgo w11 HFe;have hz11:=HF11.out.1;have hx11_0:w3.heap.size<w11.heap.size:=(by omega);have hx11_1:g<w11.heap.size:=(by omega);have hx11_2:g'<w11.heap.size:=(by omega);obtain⟨_,_,_,_,_,_,_,_,_,-⟩:=HF11.out.alls 0 9;have HM:=Lib.hid (show IsQ (Gp (fun _=>True) w3.heap.size 1) 150 _ m (q*p)from hm);clear hm;go_wp2_with fail
          refine hKc.out _ _ ?_ (fun hHeld=>?_);focus ((try dsimp only);exact(HF11.out.go blq).all 0 9)
          clear hKc Kc;refine nw ?_;refine OrdL.st 10 fun Kc hKc=>?_
          refine nv ?_;go_simp
          refine(q_Plus (P:=Gp (fun _=>True) w3.heap.size 1) (K:=150+151*k) (HO.out.below blq) ((HM.out.wide (by omega)).below blq) (by have:=HKK.out;omega) (fun k' hk'=>HPW.out k' (Nat.le_trans arq hk'))).mono ?_;rintro e w12 ⟨r,rfl,hr,hb12⟩;have HF12:=fgo w12 HF11;have hz12:=HF12.out.1;have hx12_0:w3.heap.size<w12.heap.size:=(by omega);have hx12_1:g<w12.heap.size:=(by omega);have hx12_2:g'<w12.heap.size:=(by omega);obtain⟨_,_,_,_,_,_,_,_,_,-⟩:=HF12.out.alls 0 9;have HR:=Lib.hid (show IsQ (Gp (fun _=>True) w3.heap.size 1) (150+151*k+151) _ r (u+q*p)from hr.tight (by have h8:=add_bd (B:=10000) (by decide) HO.out.bdn HO.out.bdd HM.out.bdn HM.out.bdd;exact h8.1) (by have h8:=add_bd (B:=10000) (by decide) HO.out.bdn HO.out.bdd HM.out.bdn HM.out.bdd;exact h8.2));clear hr;obtain⟨_,_,_,-⟩:=HF12.out.falls 0 3;go_wp2_with fail
          refine hKc.out _ _ ?_ (fun hHeld=>?_);focus ((try dsimp only);exact(HF12.out.go blq).all 0 9)
          clear hKc Kc;refine nw ?_;refine OrdL.last (i:=11) rfl (by decide) (by decide) (by kernel_rfl) (fun Kc hKc=>?_);refine nv ?_;go_simp
          refine hKc.out _ _ ?_;clear hKc Kc;refine nw ?_;refine OrdL.done (by kernel_rfl) ?_ _;go_wp2_with fail
          go_roundw
          case rel =>
           refine TotRel.mk' (o:=r) (k:=k+1) hlt ?_ ?_ ?_
           · rw [HTK.out,show 150+151*(k+1)=150+151*k+151 by omega];exact(((HR.out.put _ arq arq).put _ arq arq).put _ arq arq)
           · exact(((((HF.out.go blq).sets w3.heap.size 0 (.bool r.b)).sets w3.heap.size 1 (.slice r.nA r.nn r.nc)).sets w3.heap.size 2 (.slice r.dA r.dn r.dc))).eq (by simp [HGN,HGPN])
           · have hb9:=HB.out;exact blq
          case measure=>simp [intOf];omega
        · obtain rfl:k=ds.length:=by omega
          have HQ:=Lib.hid (show IsQ _ _ wr o (ds.foldl (· + ·) 0) by have h9:=HO.out;rw [List.take_of_length_le (Nat.le_refl _)]at h9;exact h9);have hnk:(n:Int)=(ds.length:Int):=by rw [HNX.out]
          go_wp2_with fail
          refine(q_Out (HQ.out.below blq) (by omega)).mono ?_;rintro e w5 ⟨rfl,hb5⟩;go_wp2_with fail
          go_ret2
          exact⟨by rw [HE.out];rfl,by have hb9:=bl_call (bl_call (bl_call HB1.out HB2.out) HB3.out) HB.out;exact blq⟩
     · have HE:=Lib.hid (show rDot bs cs=(nob,3) by rw [rDot,HQS.out,hp];exact if_neg (by rw [HLX.out,HLY.out];exact hne));have hne':¬(xs.length:Int)=(ys.length:Int):=by omega
       clear hp hR hFs hb2;go_wp2_with fail
       go_ret2
       exact⟨by rw [HE.out];rfl,by have hb9:=bl_call HB1.out HB2.out;exact blq⟩
   · have HE:=Lib.hid (show rDot bs cs=(nob,1) by rw [rDot,HQS.out,hno]);clear hno;go_wp2_with fail
     go_ret2
     exact⟨by rw [HE.out];rfl,by have hb9:=bl_call HB1.out hb2;exact blq⟩
 · have HE:=Lib.hid (show rDot bs cs=(nob,1) by rw [rDot,hno]);clear hno;have HB1:=Lib.hid hb1;clear hb1;go_wp2_with fail
   refine(q_list (P:=fun _=>True) cs (Kd.C_below HAcs.out HB1.out) (by have:=HNcs.out;omega) HScs.out (fun _ _=>trivial)).mono ?_;rintro e w2 ⟨⟨ps,ys,v,hp,rfl,hR,hFs⟩|⟨hno,rfl⟩,hb2⟩;all_goals
    go_wp2_with fail
    go_ret2
    exact⟨by rw [HE.out];rfl,by have hb9:=bl_call HB1.out hb2;exact blq⟩
theorem comm_low{u p:Rat}:Rat.divInt (sgz false (Int.gcd ((u.num.natAbs:Int)*(p.den:Int)) ((p.num.natAbs:Int)*(u.den:Int)):Int)) ((u.den:Int)*(p.den:Int))=commQ u p:=by
 have h:Int.gcd ((u.num.natAbs:Int)*(p.den:Int)) ((p.num.natAbs:Int)*(u.den:Int))=Int.gcd (u.num*(p.den:Int)) (p.num*(u.den:Int)):=by
  simp only [Int.gcd,Int.natAbs_mul,Int.natAbs_natCast]
 rw [h,commQ];rfl
def ComRelQ(w0:World)(q:Rat)(qr:List Rat)(n:Nat)(v:Value)(W:World):Prop :=
 ∃(k:Nat) (o:QV),v=.int .i64 k∧1≤k∧k≤n∧IsQ (Gp (fun _=>True) w0.heap.size 1) (75*k) W o ((qr.take (k-1)).foldl commQ q)∧Fr [(w0.heap.size,0,(.bool o.b)),(w0.heap.size,1,(.slice o.nA o.nn o.nc)),(w0.heap.size,2,(.slice o.dA o.dn o.dc))] (w0.heap.size+1) W∧Below w0.heap.size w0 W
theorem com_snoc{q p:Rat}{qr:List Rat}{k:Nat}(h1:1≤k)(h:(q :: qr)[k]?=some p):(qr.take (k+1-1)).foldl commQ q=commQ ((qr.take (k-1)).foldl commQ q) p:=by
 obtain⟨j,rfl⟩:∃j,k=j+1:=⟨k-1,by omega⟩
 exact fold_snoc (by simpa using h)
theorem q_rCommon{A:Option Addr}{c:Nat}(bs:List ByteArray)(hAbs:Kd.string.C w A bs.length bs)(hnbs:bs.length≤300)(hsbs:∀s∈bs,s.size≤140737488351232) :
 Calls Tryz.prog 36 #[.slice A bs.length c] w fun e w'=>e=.returned (.tuple #[.string (rCommon bs).1,.int .i64 (rCommon bs).2])∧Below w.heap.size w w':=by
 have HAbs:=Lib.hid hAbs
 have HSbs:=Lib.hid hsbs
 have HNbs:=Lib.hid hnbs
 clear hAbs hsbs hnbs
 go_enter Tryz.func36,Tryz.ntmps36
 go_wp2_with fail
 refine(q_list (P:=fun _=>True) bs HAbs.out (by have:=HNbs.out;omega) HSbs.out (fun _ _=>trivial)).mono ?_
 rintro e w1 ⟨⟨qs,xs,v,hq,rfl,hR,hFs⟩|⟨hno,rfl⟩,hb1⟩
 · have hlen:xs.length≤300:=by have h1:=numsB_len hq;have h2:=hFs.1;have h3:=HNbs.out;omega
   match xs,qs,hFs,hq,hR,hlen with
   | [],[],hFs,hq,hR,hlen =>
    have HE:=Lib.hid (show rCommon bs=(nob,5)from by rw [rCommon,hq]);obtain⟨A4,c4,rfl⟩:=Kd.R_slice hR;clear hFs hq hR hlen;go_wp2_with fail
    go_ret2
    exact⟨by rw [HE.out];rfl,blq⟩
   | x :: xr,q :: qr,hFs,hq,hR,hlen =>
    obtain⟨A4,c4,rfl⟩:=Kd.R_slice hR;obtain⟨g,rfl,hrow⟩:=row_q hR (i:=0) (by simp);have HW:=Lib.hid hrow;have HFS:=Lib.hid hFs;have HQ:=Lib.hid hq;have HB1:=Lib.hid hb1;have hg:g<w1.heap.size:=HW.out.1;clear hFs hq hR hb1 hrow;obtain⟨n,hnn⟩:∃n,n=(x :: xr).length:=⟨_,rfl⟩;rw [←hnn];have hn1:0<n:=by rw [hnn];simp
    have hn2:n≤300:=by rw [hnn];exact hlen
    have hn3:((n:Int)==0)=false:=by simp;omega
    have HNN:=Lib.hid hnn;clear hnn hlen;go_wp2_with fail
    go_loopw [6] (fun v W=>∃k:Nat,v=.int .i64 k∧k≤n∧(∀p∈(q :: qr).take k,0<p.num.sign)∧Below w1.heap.size w1 W) (fun v _=>n-(intOf v).toNat)
    case atStart=>exact ⟨0,rfl,Nat.zero_le _,by simp,Below.refl _ _⟩
    case round =>
     obtain⟨k,rfl,hk,hpos,hb⟩:=hrel;have HPOS:=Lib.hid hpos;have HB:=Lib.hid hb;clear hpos hb;by_cases hlt:k<n
     · have hlt':(k:Int)<(n:Int):=by omega
       have hk0:(0:Int)≤(k:Int):=by omega
       obtain⟨y,hy⟩:∃y,(x :: xr)[k]?=some y:=⟨(x :: xr)[k]'(by rw [←HNN.out];exact hlt),List.getElem?_eq_getElem _⟩;obtain⟨p,hp⟩:∃p,(q :: qr)[k]?=some p:=⟨(q :: qr)[k]'(by rw [←HFS.out.1,←HNN.out];exact hlt),List.getElem?_eq_getElem _⟩;have HY:=Lib.hid (HFS.out.2 k y p hy hp);have HWr:=Lib.hid (HW.out.below HB.out);have hgr:g<wr.heap.size:=HWr.out.1;have c0:wr.cell? ⟨g,k*3,none⟩=some (.bool y.b):=(HWr.out.2 k y hy 0 _ rfl).1;have c1:=(HWr.out.2 k y hy 1 _ rfl).1;have c2:=(HWr.out.2 k y hy 2 _ rfl).1;have HPK:=Lib.hid hp;clear hy hp;obtain⟨sg,hsge⟩:∃sg,sg=p.num.sign:=⟨_,rfl⟩;have HSG:=Lib.hid hsge.symm;by_cases hsg:sg≤0
       · have HE:=Lib.hid (show rCommon bs=(nob,3)from by
          rw [rCommon,HQ.out]
          exact if_pos (by rw [List.any_eq_true];exact⟨p,List.mem_of_getElem? HPK.out,by rw [hsge]at hsg;simpa using hsg⟩))
         clear hsge;go_wp2_with fail
         refine(q_Sign' (K:=75) (HY.out.below (have hb9:=HB.out;blq)) (by decide) HSG.out).mono ?_;rintro e w2 ⟨rfl,hb2⟩;go_wp2_with fail
         go_ret2
         exact⟨by rw [HE.out];rfl,have hb8:=HB1.out;have hb9:=HB.out;blq⟩
       · have HPOS2:=Lib.hid (show ∀r∈(q :: qr).take (k+1),0<r.num.sign from by
          intro r hr;have h1:=HPK.out;rw [List.take_add_one,h1]at hr;rcases List.mem_append.1 hr with h2|h2
          · exact HPOS.out r h2
          · simp at h2;rw [h2];omega)
         clear hsge;go_wp2_with fail
         refine(q_Sign' (K:=75) (HY.out.below (have hb9:=HB.out;blq)) (by decide) HSG.out).mono ?_;rintro e w2 ⟨rfl,hb2⟩;go_wp2_with fail
         go_roundw
         case rel=>exact ⟨k+1,by go_num,hlt,HPOS2.out,have hb9:=HB.out;blq⟩
         case measure=>simp [intOf];omega
     · obtain rfl:n=k:=by omega
       obtain⟨wo,rfl⟩:∃wo:World,wo=wr:=⟨_,rfl⟩;have hall:=HPOS.out;rw [List.take_of_length_le (by rw [←HFS.out.1,←HNN.out];exact Nat.le_refl _)]at hall
       have HE:=Lib.hid (show rCommon bs=tellB (qr.foldl commQ q)from by
        rw [rCommon,HQ.out]
        exact if_neg (by rw [List.any_eq_true];rintro⟨r,hr,h2⟩;have h3:=hall r hr;have h4:r.num.sign≤0:=(by simpa using h2);omega))
       have HWr:=Lib.hid (HW.out.below HB.out);have HFX:=Lib.hid ((HFS.out.below HB.out).gap 1);have HB2:=Lib.hid (show Below w.heap.size w wo from bl_call (have hb8:=HB1.out;blq) HB.out);have hgr:g<wo.heap.size:=HWr.out.1;have c0:wo.cell? ⟨g,0,none⟩=some (.bool x.b):=by have h9:=(HWr.out.2 0 x rfl 0 _ rfl).1;simpa using h9
       have c1:wo.cell? ⟨g,1,none⟩=some (.slice x.nA x.nn x.nc):=by have h9:=(HWr.out.2 0 x rfl 1 _ rfl).1;simpa using h9
       have c2:wo.cell? ⟨g,2,none⟩=some (.slice x.dA x.dn x.dc):=by have h9:=(HWr.out.2 0 x rfl 2 _ rfl).1;simpa using h9
       have hk1:(0:Int)<(n:Int):=by omega
       have HR0:=Lib.hid (show ComRelQ wo q qr n (.int .i64 (1:Nat)) (wo.alloc (.cells #[.bool x.b,.slice x.nA x.nn x.nc,.slice x.dA x.dn x.dc] 60))from ⟨1,x,rfl,Nat.le_refl _,hn1,(HFX.out.2 0 x q rfl rfl).below blq,(Fr.nil (Nat.le_refl _)).new3 _ _ _ _,blq⟩);have HLQ:=Lib.hid (show qr.length+1=n by have h9:=HNN.out;have h8:=HFS.out.1;simp at h9 h8;omega);clear hall HPOS HB1 HFS;go_wp2_with fail
       go_loopw [8] (fun v W=>ComRelQ wo q qr n v W) (fun v _=>n-(intOf v).toNat)
       case atStart=>exact HR0.out
       case round =>
        clear HR0 c0 c1 c2;obtain⟨k,o,rfl,hk1',hk,ho,hf,hb⟩:=hrel;have HO:=Lib.hid ho;have HF:=Lib.hid (show Fr [(wo.heap.size,0,(.bool o.b)),(wo.heap.size,1,(.slice o.nA o.nn o.nc)),(wo.heap.size,2,(.slice o.dA o.dn o.dc))] (wo.heap.size+1) wr from hf);have HB:=Lib.hid hb;have hzr:wo.heap.size+1≤wr.heap.size:=HF.out.1;have hzl:wo.heap.size<wr.heap.size:=by omega
        clear ho hf hb;have q0_0:=HF.out.get 0 rfl;have q0_1:=HF.out.get 1 rfl;have q0_2:=HF.out.get 2 rfl;by_cases hlt:k<n
        · have hlt':(k:Int)<(n:Int):=by omega
          have hk0:(0:Int)≤(k:Int):=by omega
          obtain⟨y,hy⟩:∃y,(x :: xr)[k]?=some y:=⟨(x :: xr)[k]'(by rw [←HNN.out];exact hlt),List.getElem?_eq_getElem _⟩;obtain⟨p,hp⟩:∃p,(q :: qr)[k]?=some p:=⟨(q :: qr)[k]'(by rw [←HFX.out.1,←HNN.out];exact hlt),List.getElem?_eq_getElem _⟩;have HY:=Lib.hid ((HFX.out.2 k y p hy hp).below HB.out);have hgw:g<wr.heap.size:=by omega
          have HGN:¬g=wo.heap.size:=by omega
          have HFe:=Lib.hid (row_fr (HWr.out.below HB.out) hy HF.out);have HTK:=Lib.hid (com_snoc hk1' hp);obtain⟨u,hu⟩:∃u,(qr.take (k-1)).foldl commQ q=u:=⟨_,rfl⟩;rw [hu]at HTK HO;have HDP:=Lib.hid (show(0:Int)<(u.den:Int)*(p.den:Int)from Int.mul_pos (den_pos u) (den_pos p));have HPW:=Lib.hid (show ∀k',wr.heap.size≤k'→Gp (fun _=>True) wo.heap.size 1 k' from fun k' hk'=>⟨trivial,.inr (by omega)⟩);have hk3:k≤300:=by omega
          clear hy hp hu;obtain⟨_,_,_,-⟩:=HFe.out.alls 3 3;go_wp2_with fail
          refine OrdL.begin_ (S:=fun W=>W.cell? ⟨wo.heap.size,0,none⟩=some (.bool o.b)∧W.cell? ⟨wo.heap.size,1,none⟩=some (.slice o.nA o.nn o.nc)∧W.cell? ⟨wo.heap.size,2,none⟩=some (.slice o.dA o.dn o.dc)∧W.cell? ⟨g,k*3,none⟩=some (.bool y.b)∧W.cell? ⟨g,k*3+1,none⟩=some (.slice y.nA y.nn y.nc)∧W.cell? ⟨g,k*3+2,none⟩=some (.slice y.dA y.dn y.dc)) [] [8] (by kernel_rfl) ?_ (fun hHeld=>?_);focus ((try dsimp only);exact(HFe.out.go blq).all 0 6)
          refine OrdL.tk 0 (some 41) ?_;refine nw ?_;refine OrdL.tk 1 (some 42) ?_;refine nw ?_;refine OrdL.tk 2 (some 43) ?_;refine nw ?_;refine OrdL.tk 3 (some 44) ?_;refine nw ?_;refine OrdL.tk 4 (some 45) ?_;refine nw ?_;refine OrdL.tk 5 (some 46) ?_;refine nw ?_;refine OrdL.tk 6 (some 47) ?_;refine nw ?_;refine OrdL.st 7 fun Kc hKc=>?_
          refine nv ?_;go_simp
          refine(d_mulNat (P:=Gp (fun _=>True) wo.heap.size 1) (HO.out.hd.below blq) (HY.out.hd.below blq) (by omega) (by decide) (fun k' hk'=>HPW.out k' (Nat.le_trans arq hk'))).mono ?_;rintro e w11 ⟨A9,n9,c9,rfl,h9,hb11⟩;have HF11:=fgo w11 HFe;have hz11:=HF11.out.1;have hx11_0:wo.heap.size<w11.heap.size:=(by omega);have hx11_1:g<w11.heap.size:=(by omega);obtain⟨_,_,_,_,_,_,-⟩:=HF11.out.alls 0 6;have HD:=Lib.hid (show IsD (Gp (fun _=>True) wo.heap.size 1) (75*k+75) _ A9 n9 c9 _ from h9);clear h9;go_wp2_with fail
          refine hKc.out _ _ ?_ (fun hHeld=>?_);focus ((try dsimp only);exact(HF11.out.go blq).all 0 6)
          clear hKc Kc;refine nw ?_;refine OrdL.last (i:=8) rfl (by decide) (by decide) (by kernel_rfl) (fun Kc hKc=>?_);refine nv ?_;go_simp
          refine hKc.out _ _ ?_;clear hKc Kc;refine nw ?_;refine OrdL.done (by kernel_rfl) ?_ _;go_wp2_with fail
          refine OrdL.begin_ (S:=fun W=>W.cell? ⟨wo.heap.size,0,none⟩=some (.bool o.b)∧W.cell? ⟨wo.heap.size,1,none⟩=some (.slice o.nA o.nn o.nc)∧W.cell? ⟨wo.heap.size,2,none⟩=some (.slice o.dA o.dn o.dc)∧W.cell? ⟨g,k*3,none⟩=some (.bool y.b)∧W.cell? ⟨g,k*3+1,none⟩=some (.slice y.nA y.nn y.nc)∧W.cell? ⟨g,k*3+2,none⟩=some (.slice y.dA y.dn y.dc)) [] [19] (by kernel_rfl) ?_ (fun hHeld=>?_);focus ((try dsimp only);exact(HF11.out.go blq).all 0 6)
          refine OrdL.tk 0 (some 49) ?_;refine nw ?_;refine OrdL.tk 1 (some 50) ?_;refine nw ?_;refine OrdL.tk 2 (some 51) ?_;refine nw ?_;refine OrdL.tk 3 (some 52) ?_;refine nw ?_;refine OrdL.tk 4 (some 53) ?_;refine nw ?_;refine OrdL.tk 5 (some 54) ?_;refine nw ?_;refine OrdL.tk 6 (some 55) ?_;refine nw ?_;refine OrdL.tk 8 (some 57) ?_;refine nw ?_;refine OrdL.tk 9 (some 58) ?_;refine nw ?_;refine OrdL.tk 10 (some 59) ?_;refine nw ?_;refine OrdL.tk 11 (some 60) ?_;refine nw ?_;refine OrdL.tk 12 (some 61) ?_;refine nw ?_;refine OrdL.tk 13 (some 62) ?_;refine nw ?_;refine OrdL.tk 14 (some 63) ?_;refine nw ?_;refine OrdL.tk 17 (some 66) ?_;refine nw ?_;refine OrdL.st 7 fun Kc hKc=>?_
          refine nv ?_;go_simp
          refine(d_mulNat (P:=Gp (fun _=>True) wo.heap.size 1) (HO.out.hn.below blq) (HY.out.hd.below blq) (by omega) (by decide) (fun k' hk'=>HPW.out k' (Nat.le_trans arq hk'))).mono ?_;rintro e w12 ⟨A10,n10,c10,rfl,h10,hb12⟩;have H10:=Lib.hid h10;clear h10;have HF12:=fgo w12 HF11;have hz12:=HF12.out.1;have hx12_0:wo.heap.size<w12.heap.size:=(by omega);have hx12_1:g<w12.heap.size:=(by omega);obtain⟨_,_,_,_,_,_,-⟩:=HF12.out.alls 0 6;go_wp2_with fail
          refine hKc.out _ _ ?_ (fun hHeld=>?_);focus ((try dsimp only);exact(HF12.out.go blq).all 0 6)
          clear hKc Kc;refine nw ?_;refine OrdL.st 15 fun Kc hKc=>?_
          refine nv ?_;go_simp
          refine(d_mulNat (P:=Gp (fun _=>True) wo.heap.size 1) (HY.out.hn.below blq) (HO.out.hd.below blq) (by decide) (by omega) (fun k' hk'=>HPW.out k' (Nat.le_trans arq hk'))).mono ?_;rintro e w13 ⟨A11,n11,c11,rfl,h11,hb13⟩;have H11:=Lib.hid h11;clear h11;have HF13:=fgo w13 HF12;have hz13:=HF13.out.1;have hx13_0:wo.heap.size<w13.heap.size:=(by omega);have hx13_1:g<w13.heap.size:=(by omega);obtain⟨_,_,_,_,_,_,-⟩:=HF13.out.alls 0 6;go_wp2_with fail
          refine hKc.out _ _ ?_ (fun hHeld=>?_);focus ((try dsimp only);exact(HF13.out.go blq).all 0 6)
          clear hKc Kc;refine nw ?_;refine OrdL.st 16 fun Kc hKc=>?_
          refine nv ?_;go_simp
          refine(d_gcdNat (P:=Gp (fun _=>True) wo.heap.size 1) (K:=75*k+75) (H10.out.below blq) ((H11.out.wide (by omega)).below blq) (by omega) (fun k' hk'=>HPW.out k' (Nat.le_trans arq hk'))).mono ?_;rintro e w14 ⟨A12,n12,c12,rfl,h12,hb14⟩;have H12:=Lib.hid h12;clear h12;have HF14:=fgo w14 HF13;have hz14:=HF14.out.1;have hx14_0:wo.heap.size<w14.heap.size:=(by omega);have hx14_1:g<w14.heap.size:=(by omega);obtain⟨_,_,_,_,_,_,-⟩:=HF14.out.alls 0 6;go_wp2_with fail
          refine hKc.out _ _ ?_ (fun hHeld=>?_);focus ((try dsimp only);exact(HF14.out.go blq).all 0 6)
          clear hKc Kc;refine nw ?_;refine OrdL.st 18 fun Kc hKc=>?_
          refine nv ?_;go_simp
          refine(q_lowest (P:=Gp (fun _=>True) wo.heap.size 1) (K:=75*k+75) false (H12.out.below blq) (HD.out.below blq) HDP.out (by omega) (fun k' hk'=>HPW.out k' (Nat.le_trans arq hk'))).mono ?_;rintro e w15 ⟨r,rfl,hr,hb15⟩;have HF15:=fgo w15 HF14;have hz15:=HF15.out.1;have hx15_0:wo.heap.size<w15.heap.size:=(by omega);have hx15_1:g<w15.heap.size:=(by omega);obtain⟨_,_,_,_,_,_,-⟩:=HF15.out.alls 0 6;have HR:=Lib.hid (show IsQ (Gp (fun _=>True) wo.heap.size 1) (75*k+75) _ r (commQ u p)from by rw [←comm_low];exact hr);clear hr;obtain⟨_,_,_,-⟩:=HF15.out.falls 0 3;go_wp2_with fail
          refine hKc.out _ _ ?_ (fun hHeld=>?_);focus ((try dsimp only);exact(HF15.out.go blq).all 0 6)
          clear hKc Kc;refine nw ?_;refine OrdL.last (i:=19) rfl (by decide) (by decide) (by kernel_rfl) (fun Kc hKc=>?_);refine nv ?_;go_simp
          refine hKc.out _ _ ?_;clear hKc Kc;refine nw ?_;refine OrdL.done (by kernel_rfl) ?_ _;go_wp2_with fail
          go_roundw
          case rel =>
           refine⟨k+1,r,by go_num,by omega,hlt,?_,?_,by have hb9:=HB.out;exact blq⟩
           · rw [HTK.out,show 75*(k+1)=75*k+75 by omega];exact(((HR.out.put _ arq arq).put _ arq arq).put _ arq arq)
           · exact(((((HF.out.go blq).sets wo.heap.size 0 (.bool r.b)).sets wo.heap.size 1 (.slice r.nA r.nn r.nc)).sets wo.heap.size 2 (.slice r.dA r.dn r.dc))).eq (by simp [HGN])
          case measure=>simp [intOf];omega
        · obtain rfl:k=n:=by omega
          have HQ2:=Lib.hid (show IsQ _ _ wr o (qr.foldl commQ q) by have h9:=HO.out;rw [List.take_of_length_le (by have:=HLQ.out;omega)]at h9;exact h9);go_wp2_with fail
          refine(q_Out (HQ2.out.below blq) (by omega)).mono ?_;rintro e w5 ⟨rfl,hb5⟩;go_wp2_with fail
          go_ret2
          exact⟨by rw [HE.out];rfl,by have hb9:=bl_call HB2.out HB.out;exact blq⟩
 · have HE:=Lib.hid (show rCommon bs=(nob,1)from by rw [rCommon,hno]);have HB1:=Lib.hid hb1;clear hno hb1;go_wp2_with fail
   go_ret2
   exact⟨by rw [HE.out];rfl,have hb9:=HB1.out;blq⟩
end
end Go.Proofs.YtpdghgfbfmaplaaGreatDoor.Rf
end
