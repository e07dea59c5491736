/- Lemmas for RatLists. -/
import Derived.Test.YtpdghgfbfmaplaaGreatDoorZRefL
set_option maxRecDepth 100000
set_option maxHeartbeats 8000000
section
set_option linter.unusedVariables false
set_option linter.unusedSimpArgs false
namespace Go.Proofs.YtpdghgfbfmaplaaGreatDoor.Rf
open Go.RowKit Go.Proofs.YtpdghgfbfmaplaaGreatDoorW.PrintWords Go.Proofs.YtpdghgfbfmaplaaGreatDoor.Num Go.Proofs.YtpdghgfbfmaplaaGreatDoor.PRef Go.Proofs.YtpdghgfbfmaplaaGreatDoor.WhC Go.Proofs.YtpdghgfbfmaplaaGreatDoor.Dec Go.Proofs.YtpdghgfbfmaplaaGreatDoor.Wh
theorem Fs.gap'{P:Nat→Prop}{K:Nat}{w:World}{xs:List FV}{qs:List Rat}(h:Fs P K w xs qs)(n:Nat):Fs (Gp P w.heap.size n) K w xs qs:=⟨h.1,fun i x q h1 h2=>(h.2 i x q h1 h2).gap n⟩
def RowF(g:Nat)(xs:List FV)(W:World):Prop:=g<W.heap.size∧∀i x,xs[i]?=some x→∀j u,(fcells x)[j]?=some u→W.cell? ⟨g,i*4+j,none⟩=some u∧W.frozen? ⟨g,i*4+j,none⟩=false
theorem RowF.below{g:Nat}{xs:List FV}{W W1:World}(h:RowF g xs W)(hb:Below W.heap.size W W1):RowF g xs W1 :=
 ⟨Nat.lt_of_lt_of_le h.1 hb.size,fun i x hi j u hj=>⟨(hb.cell (p:=⟨g,i*4+j,none⟩) h.1).trans (h.2 i x hi j u hj).1,(hb.frozen (p:=⟨g,i*4+j,none⟩) h.1).trans (h.2 i x hi j u hj).2⟩⟩
theorem row_f{W:World}{base n cap:Nat}{A:Option Addr}{ok:Nat→Prop}{xs:List FV}{i:Nat}(h:Kd.R fvK 52 W base ok (.slice A n cap) xs)(hi:i<xs.length):∃g,A=some ⟨g,0,none⟩∧RowF g xs W:=by
 obtain⟨inner,ho⟩:=Kd.R_own h
 rcases ho.2 with ⟨_,h2⟩|⟨g,cap',cur,he,_⟩
 · have:xs= []:=by simpa using h2
   rw [this]at hi;exact absurd hi (by simp)
 · obtain⟨rfl,rfl,rfl⟩:A=some ⟨g,0,none⟩∧n=_∧cap=cap':=by injection he with h1 h2 h3;exact⟨h1,h2,h3⟩
   exact⟨g,rfl,row_cells h⟩
theorem row_ff{g gb k:Nat}{xs:List FV}{y o:FV}{W:World}(h:RowF g xs W)(hy:xs[k]?=some y)(hf:Fr [(gb,0,(.bool o.num.b)),(gb,1,(.slice o.num.A o.num.n o.num.c)),(gb,2,(.bool o.den.b)),(gb,3,(.slice o.den.A o.den.n o.den.c))] (gb+1) W):Fr [(gb,0,(.bool o.num.b)),(gb,1,(.slice o.num.A o.num.n o.num.c)),(gb,2,(.bool o.den.b)),(gb,3,(.slice o.den.A o.den.n o.den.c)),(g,k*4,(.bool y.num.b)),(g,k*4+1,(.slice y.num.A y.num.n y.num.c)),(g,k*4+2,(.bool y.den.b)),(g,k*4+3,(.slice y.den.A y.den.n y.den.c))] W.heap.size W:=by
 have e0:=h.2 k y hy 0 _ rfl
 have e1:=h.2 k y hy 1 _ rfl
 have e2:=h.2 k y hy 2 _ rfl
 have e3:=h.2 k y hy 3 _ rfl
 have hg:=h.1
 refine Fr.app (L:=[(gb,0,(.bool o.num.b)),(gb,1,(.slice o.num.A o.num.n o.num.c)),(gb,2,(.bool o.den.b)),(gb,3,(.slice o.den.A o.den.n o.den.c))]) (hf.up hf.1 (Nat.le_refl _)) ?_
 exact((((Fr.nil (Nat.le_refl _)).cons hg e3.1 e3.2).cons hg e2.1 e2.2).cons hg e1.1 e1.2).cons hg e0.1 e0.2
theorem row_ff2{g g' gb k:Nat}{xs ys:List FV}{y z o:FV}{W:World}(h:RowF g xs W)(hy:xs[k]?=some y)(h':RowF g' ys W)(hz:ys[k]?=some z)(hf:Fr [(gb,0,(.bool o.num.b)),(gb,1,(.slice o.num.A o.num.n o.num.c)),(gb,2,(.bool o.den.b)),(gb,3,(.slice o.den.A o.den.n o.den.c))] (gb+1) W):Fr [(gb,0,(.bool o.num.b)),(gb,1,(.slice o.num.A o.num.n o.num.c)),(gb,2,(.bool o.den.b)),(gb,3,(.slice o.den.A o.den.n o.den.c)),(g,k*4,(.bool y.num.b)),(g,k*4+1,(.slice y.num.A y.num.n y.num.c)),(g,k*4+2,(.bool y.den.b)),(g,k*4+3,(.slice y.den.A y.den.n y.den.c)),(g',k*4,(.bool z.num.b)),(g',k*4+1,(.slice z.num.A z.num.n z.num.c)),(g',k*4+2,(.bool z.den.b)),(g',k*4+3,(.slice z.den.A z.den.n z.den.c))] W.heap.size W:=by
 have e0:=h'.2 k z hz 0 _ rfl
 have e1:=h'.2 k z hz 1 _ rfl
 have e2:=h'.2 k z hz 2 _ rfl
 have e3:=h'.2 k z hz 3 _ rfl
 have hg:=h'.1
 refine Fr.app (L:=[(gb,0,(.bool o.num.b)),(gb,1,(.slice o.num.A o.num.n o.num.c)),(gb,2,(.bool o.den.b)),(gb,3,(.slice o.den.A o.den.n o.den.c)),(g,k*4,(.bool y.num.b)),(g,k*4+1,(.slice y.num.A y.num.n y.num.c)),(g,k*4+2,(.bool y.den.b)),(g,k*4+3,(.slice y.den.A y.den.n y.den.c))]) (row_ff h hy hf) ?_
 exact((((Fr.nil (Nat.le_refl _)).cons hg e3.1 e3.2).cons hg e2.1 e2.2).cons hg e1.1 e1.2).cons hg e0.1 e0.2
def TotRelF(w0:World)(ds:List Rat)(K st:Nat)(v:Value)(W:World):Prop :=
 ∃(k:Nat) (o:FV),v=.int .i64 k∧k≤ds.length∧IsF (Gp (fun _=>True) w0.heap.size 1) (K+st*k) W o ((ds.take k).foldl (· + ·) 0)∧Fr [(w0.heap.size,0,(.bool o.num.b)),(w0.heap.size,1,(.slice o.num.A o.num.n o.num.c)),(w0.heap.size,2,(.bool o.den.b)),(w0.heap.size,3,(.slice o.den.A o.den.n o.den.c))] (w0.heap.size+1) W∧Below w0.heap.size w0 W
theorem TotRelF.mk'{w0 W:World}{ds:List Rat}{K st k:Nat}{o:FV}(h1:k≤ds.length)(h2:IsF (Gp (fun _=>True) w0.heap.size 1) (K+st*k) W o ((ds.take k).foldl (· + ·) 0))(h3:Fr [(w0.heap.size,0,(.bool o.num.b)),(w0.heap.size,1,(.slice o.num.A o.num.n o.num.c)),(w0.heap.size,2,(.bool o.den.b)),(w0.heap.size,3,(.slice o.den.A o.den.n o.den.c))] (w0.heap.size+1) W)(h4:Below w0.heap.size w0 W):TotRelF w0 ds K st (.int .i64 k) W:=⟨k,o,rfl,h1,h2,h3,h4⟩
theorem zip_at'{qs ps:List Rat}{k:Nat}{q p:Rat}(h1:qs[k]?=some q)(h2:ps[k]?=some p):(List.zipWith (· * ·) qs ps)[k]?=some (q*p):=by rw [List.getElem?_zipWith,h1,h2]
section
variable {w:World}
theorem c_rTotal{A:Option Addr}{c:Nat}(bs:List ByteArray)(hAbs:Kd.string.C w A bs.length bs)(hnbs:bs.length≤300)(hsbs:∀s∈bs,s.size≤140737488351232) :
 Calls Tryz.prog 31 #[.slice A bs.length c] w fun e w'=>e=.returned (.tuple #[.string (rTotal bs).1,.int .i64 (rTotal bs).2])∧Below w.heap.size w w':=by
 have HAbs:=Lib.hid hAbs
 have HSbs:=Lib.hid hsbs
 have HNbs:=Lib.hid hnbs
 clear hAbs hsbs hnbs
 go_enter Tryz.func31,Tryz.ntmps31
 go_wp2_with fail
 refine(c_parsed (P:=fun _=>True) bs HAbs.out (by have:=HNbs.out;omega) HSbs.out (fun _ _=>trivial)).mono ?_
 rintro e w1 ⟨⟨qs,xs,v,hq,rfl,hR,hFs⟩|⟨hno,rfl⟩,hb1⟩
 · have HE:=Lib.hid (show rTotal bs=tellB (qs.foldl (· + ·) 0) by rw [rTotal,hq]);have hl:qs.length≤300:=by rw [←numsB_len hq];exact HNbs.out
   obtain⟨A4,c4,rfl⟩:=Kd.R_slice hR;have HR1:=Lib.hid hR;have HFS1:=Lib.hid hFs;have HB1:=Lib.hid hb1;obtain⟨n,hn⟩:∃n,xs.length=n:=⟨_,rfl⟩;have HNX:=Lib.hid (show qs.length=n by rw [←hn,hFs.1]);rw [hn];clear hq hR hFs hb1;go_wp2_with fail
   refine(c_FOf (P:=fun _=>True) 0 (by decide) (by decide) (fun _ _=>trivial)).mono ?_;rintro e w2 ⟨o0,rfl,ho0,hb2⟩;have HB2:=Lib.hid hb2;have HFS:=Lib.hid (Fs.gap' (HFS1.out.below hb2) 1);have HR0:=Lib.hid (show TotRelF w2 qs 34 35 (.int .i64 (0:Nat)) (w2.alloc (.cells #[.bool o0.num.b,.slice o0.num.A o0.num.n o0.num.c,.bool o0.den.b,.slice o0.den.A o0.den.n o0.den.c] 52))from TotRelF.mk' (Nat.zero_le _) (((ho0.gap 1).wide (by omega)).below blq) ((Fr.nil (Nat.le_refl _)).new4 _ _ _ _ _) blq);clear ho0 hb2 HFS1;go_wp2_with fail
   go_loopw [19] (fun v W=>TotRelF w2 qs 34 35 v W) (fun v _=>qs.length-(intOf v).toNat)
   case atStart=>exact HR0.out
   case round =>
    obtain⟨k,o,rfl,hk,ho,hf,hb⟩:=hrel;have HO:=Lib.hid ho;have HF:=Lib.hid (show Fr [(w2.heap.size,0,(.bool o.num.b)),(w2.heap.size,1,(.slice o.num.A o.num.n o.num.c)),(w2.heap.size,2,(.bool o.den.b)),(w2.heap.size,3,(.slice o.den.A o.den.n o.den.c))] (w2.heap.size+1) wr from hf);have HB:=Lib.hid hb;have hzr:w2.heap.size+1≤wr.heap.size:=HF.out.1;have hzl:w2.heap.size<wr.heap.size:=by omega
    clear ho hf hb;have q0_0:=HF.out.get 0 rfl;have q0_1:=HF.out.get 1 rfl;have q0_2:=HF.out.get 2 rfl;have q0_3:=HF.out.get 3 rfl;by_cases hlt:k<qs.length
    · have hk0:(0:Int)≤(k:Int):=by omega
      have hlty:k<xs.length:=by rw [HFS.out.1];exact hlt
      obtain⟨y,hy⟩:∃y,xs[k]?=some y:=⟨xs[k]'hlty,List.getElem?_eq_getElem _⟩;obtain⟨q,hq⟩:∃q,qs[k]?=some q:=⟨qs[k]'(by rw [←HFS.out.1];exact hlty),List.getElem?_eq_getElem _⟩;obtain⟨g,rfl,hg⟩:=row_f HR1.out hlty;have HY:=Lib.hid ((HFS.out.2 k y q hy hq).below HB.out);have hgw:g<wr.heap.size:=Nat.lt_of_lt_of_le hg.1 (Nat.le_trans HB2.out.size HB.out.size);have HGNN:¬g=w2.heap.size:=by have:=hg.1;have h9:=HB2.out.size;omega
      have hlty':(k:Int)<(n:Int):=by have:=hlty;omega
      have HFe:=Lib.hid (row_ff (hg.below (bl_call HB2.out HB.out)) hy HF.out);have HTK:=Lib.hid (fold_snoc (f:=(· + ·)) (z:=0) hq);obtain⟨u,hu⟩:∃u,(qs.take k).foldl (· + ·) 0=u:=⟨_,rfl⟩;rw [hu]at HTK HO;have HKK:=Lib.hid (show 34+35*k≤1000000 by omega);have HPW:=Lib.hid (show ∀k',wr.heap.size≤k'→Gp (fun _=>True) w2.heap.size 1 k' from fun k' hk'=>⟨trivial,.inr (by omega)⟩);clear hy hq hg hu;obtain⟨_,_,_,_,-⟩:=HFe.out.alls 4 4;have HFb:=Lib.hid (show Fr [(wr.heap.size,0,(.bool y.num.b)),(wr.heap.size,1,(.slice y.num.A y.num.n y.num.c)),(wr.heap.size,2,(.bool y.den.b)),(wr.heap.size,3,(.slice y.den.A y.den.n y.den.c)),(w2.heap.size,0,(.bool o.num.b)),(w2.heap.size,1,(.slice o.num.A o.num.n o.num.c)),(w2.heap.size,2,(.bool o.den.b)),(w2.heap.size,3,(.slice o.den.A o.den.n o.den.c)),(g,k*4,(.bool y.num.b)),(g,k*4+1,(.slice y.num.A y.num.n y.num.c)),(g,k*4+2,(.bool y.den.b)),(g,k*4+3,(.slice y.den.A y.den.n y.den.c))] (wr.heap.size+1) (wr.alloc (.cells #[.bool y.num.b,.slice y.num.A y.num.n y.num.c,.bool y.den.b,.slice y.den.A y.den.n y.den.c] 52))from HFe.out.new4 _ _ _ _ _);go_wp2_with fail
      refine(c_FAdd (P:=Gp (fun _=>True) w2.heap.size 1) (K:=34+35*k) (HO.out.below blq) ((HY.out.wide (by omega)).below blq) (by have:=HKK.out;omega) (fun k' hk'=>HPW.out k' (Nat.le_trans arq hk'))).mono ?_;rintro e w11 ⟨r,rfl,hr,hb11⟩;have HF11:=fgo w11 HFb;have hz11:=HF11.out.1;have hx11_0:w2.heap.size<w11.heap.size:=(by omega);have hx11_1:g<w11.heap.size:=(by omega);obtain⟨_,_,_,_,_,_,_,_,_,_,_,_,-⟩:=HF11.out.alls 0 12;have HR:=Lib.hid (show IsF (Gp (fun _=>True) w2.heap.size 1) (34+35*k+35) _ r (u+q)from hr.tight (by have h8:=add_bd (B:=1000000000) (by decide) HO.out.bdn HO.out.bdd HY.out.bdn HY.out.bdd;exact h8.1) (by have h8:=add_bd (B:=1000000000) (by decide) HO.out.bdn HO.out.bdd HY.out.bdn HY.out.bdd;exact h8.2));clear hr;obtain⟨_,_,_,_,-⟩:=HF11.out.falls 4 4;go_wp2_with fail
      go_roundw
      case rel =>
       refine TotRelF.mk' (o:=r) (k:=k+1) hlt ?_ ?_ ?_
       · rw [HTK.out,show 34+35*(k+1)=34+35*k+35 by omega];exact((((HR.out.put _ arq arq).put _ arq arq).put _ arq arq).put _ arq arq)
       · exact((((((HF.out.go blq).sets w2.heap.size 0 (.bool r.num.b)).sets w2.heap.size 1 (.slice r.num.A r.num.n r.num.c)).sets w2.heap.size 2 (.bool r.den.b)).sets w2.heap.size 3 (.slice r.den.A r.den.n r.den.c))).eq (by simp [HGNN])
       · have hb9:=HB.out;exact blq
      case measure=>simp [intOf];omega
    · obtain rfl:k=qs.length:=by omega
      have HQ:=Lib.hid (show IsF _ _ wr o (qs.foldl (· + ·) 0) by have h9:=HO.out;rw [List.take_of_length_le (Nat.le_refl _)]at h9;exact h9);have hnk:(n:Int)=(qs.length:Int):=by rw [HNX.out]
      go_wp2_with fail
      refine(c_told (HQ.out.below blq) (by omega)).mono ?_;rintro e w5 ⟨rfl,hb5⟩;go_wp2_with fail
      go_ret2
      exact⟨by rw [HE.out];rfl,by have hb9:=bl_call (bl_call HB1.out HB2.out) HB.out;exact blq⟩
 · have HE:=Lib.hid (show rTotal bs=(nob,1) by rw [rTotal,hno]);clear hno;go_wp2_with fail
   go_ret2
   exact⟨by rw [HE.out];rfl,blq⟩
theorem c_rDot{A:Option Addr}{c:Nat}(bs:List ByteArray)(hAbs:Kd.string.C w A bs.length bs)(hnbs:bs.length≤300)(hsbs:∀s∈bs,s.size≤140737488351232){A':Option Addr}{c':Nat}(cs:List ByteArray)(hAcs:Kd.string.C w A' cs.length cs)(hncs:cs.length≤300)(hscs:∀s∈cs,s.size≤140737488351232) :
 Calls Tryz.prog 33 #[.slice A bs.length c,.slice A' cs.length c'] w fun e w'=>e=.returned (.tuple #[.string (rDot bs cs).1,.int .i64 (rDot bs cs).2])∧Below w.heap.size w w':=by
 have HAbs:=Lib.hid hAbs
 have HSbs:=Lib.hid hsbs
 have HNbs:=Lib.hid hnbs
 clear hAbs hsbs hnbs
 have HAcs:=Lib.hid hAcs
 have HScs:=Lib.hid hscs
 have HNcs:=Lib.hid hncs
 clear hAcs hscs hncs
 go_enter Tryz.func33,Tryz.ntmps33
 go_wp2_with fail
 refine(c_parsed (P:=fun _=>True) bs HAbs.out (by have:=HNbs.out;omega) HSbs.out (fun _ _=>trivial)).mono ?_
 rintro e w1 ⟨⟨qs,xs,v,hq,rfl,hR,hFs⟩|⟨hno,rfl⟩,hb1⟩
 · obtain⟨A4,c4,rfl⟩:=Kd.R_slice hR;have HR1:=Lib.hid hR;have HFS1:=Lib.hid hFs;have HQS:=Lib.hid hq;clear hq hR hFs;have HB1:=Lib.hid hb1;clear hb1;go_wp2_with fail
   refine(c_parsed (P:=fun _=>True) cs (Kd.C_below HAcs.out HB1.out) (by have:=HNcs.out;omega) HScs.out (fun _ _=>trivial)).mono ?_;rintro e w2 ⟨⟨ps,ys,v,hp,rfl,hR,hFs⟩|⟨hno,rfl⟩,hb2⟩
   · obtain⟨A5,c5,rfl⟩:=Kd.R_slice hR;have HR2:=Lib.hid hR;have HFT1:=Lib.hid hFs;have HB2:=Lib.hid hb2;have HL1:=Lib.hid (show qs.length=bs.length from(numsB_len HQS.out).symm);have HL2:=Lib.hid (show ps.length=cs.length from(numsB_len hp).symm);by_cases hne:bs.length=cs.length
     · have HE:=Lib.hid (show rDot bs cs=tellB ((List.zipWith (· * ·) qs ps).foldl (· + ·) 0) by rw [rDot,HQS.out,hp];exact if_pos (by rw [HL1.out,HL2.out];exact hne));obtain⟨ds,hds⟩:∃ds,List.zipWith (· * ·) qs ps=ds:=⟨_,rfl⟩;have HDS:=Lib.hid hds;rw [hds]at HE;obtain⟨n,hn⟩:∃n,xs.length=n:=⟨_,rfl⟩;have hn':ys.length=n:=by have h5:=HFS1.out.1;have h6:=hFs.1;have h7:=HL1.out;have h8:=HL2.out;omega
       have HNX:=Lib.hid (show ds.length=n by rw [←hds,List.length_zipWith];have h5:=HFS1.out.1;have h6:=hFs.1;have h7:=HL1.out;have h8:=HL2.out;omega);have hl:ds.length≤300:=by rw [←hds,List.length_zipWith];have h5:=HL1.out;have h6:=HNbs.out;omega
       have hnb:((bs.length:Int) !=(cs.length:Int))=false:=by rw [hne];simp
       rw [hn,hn'];clear hp hR hFs hb2 hds;go_wp2_with fail
       refine(c_FOf (P:=fun _=>True) 0 (by decide) (by decide) (fun _ _=>trivial)).mono ?_;rintro e w3 ⟨o0,rfl,ho0,hb3⟩;have HB3:=Lib.hid hb3;have HFS:=Lib.hid (Fs.gap' ((HFS1.out.below HB2.out).below hb3) 1);have HFT:=Lib.hid (Fs.gap' (HFT1.out.below hb3) 1);have HR0:=Lib.hid (show TotRelF w3 ds 69 70 (.int .i64 (0:Nat)) (w3.alloc (.cells #[.bool o0.num.b,.slice o0.num.A o0.num.n o0.num.c,.bool o0.den.b,.slice o0.den.A o0.den.n o0.den.c] 52))from TotRelF.mk' (Nat.zero_le _) (((ho0.gap 1).wide (by omega)).below blq) ((Fr.nil (Nat.le_refl _)).new4 _ _ _ _ _) blq);clear ho0 hb3 HFS1 HFT1 hne hnb;go_wp2_with fail
       go_loopw [11,38] (fun v11 v W=>TotRelF w3 ds 69 70 v W) (fun _ v _=>ds.length-(intOf v).toNat)
       case atStart=>exact HR0.out
       case round =>
        obtain⟨k,o,rfl,hk,ho,hf,hb⟩:=hrel;have HO:=Lib.hid ho;have HF:=Lib.hid (show Fr [(w3.heap.size,0,(.bool o.num.b)),(w3.heap.size,1,(.slice o.num.A o.num.n o.num.c)),(w3.heap.size,2,(.bool o.den.b)),(w3.heap.size,3,(.slice o.den.A o.den.n o.den.c))] (w3.heap.size+1) wr from hf);have HB:=Lib.hid hb;have hzr:w3.heap.size+1≤wr.heap.size:=HF.out.1;have hzl:w3.heap.size<wr.heap.size:=by omega
        clear ho hf hb;have q0_0:=HF.out.get 0 rfl;have q0_1:=HF.out.get 1 rfl;have q0_2:=HF.out.get 2 rfl;have q0_3:=HF.out.get 3 rfl;by_cases hlt:k<ds.length
        · have hk0:(0:Int)≤(k:Int):=by omega
          have hlty:k<xs.length:=by have h7:=hlt;rw [←HDS.out,List.length_zipWith]at h7;have h8:=HFS.out.1;omega
          obtain⟨y,hy⟩:∃y,xs[k]?=some y:=⟨xs[k]'hlty,List.getElem?_eq_getElem _⟩;obtain⟨q,hq⟩:∃q,qs[k]?=some q:=⟨qs[k]'(by rw [←HFS.out.1];exact hlty),List.getElem?_eq_getElem _⟩;obtain⟨g,rfl,hg⟩:=row_f HR1.out hlty;have HY:=Lib.hid ((HFS.out.2 k y q hy hq).below HB.out);have hgw:g<wr.heap.size:=Nat.lt_of_lt_of_le hg.1 (Nat.le_trans HB2.out.size (Nat.le_trans HB3.out.size HB.out.size));have HGNN:¬g=w3.heap.size:=by have:=hg.1;have h8:=HB2.out.size;have h9:=HB3.out.size;omega
          have hlty':(k:Int)<(n:Int):=by have:=hlty;omega
          have hltz:k<ys.length:=by have h7:=hlt;rw [←HDS.out,List.length_zipWith]at h7;have h8:=HFT.out.1;omega
          obtain⟨z,hz⟩:∃z,ys[k]?=some z:=⟨ys[k]'hltz,List.getElem?_eq_getElem _⟩;obtain⟨p,hp⟩:∃p,ps[k]?=some p:=⟨ps[k]'(by rw [←HFT.out.1];exact hltz),List.getElem?_eq_getElem _⟩;obtain⟨g',rfl,hg'⟩:=row_f HR2.out hltz;have HZ:=Lib.hid ((HFT.out.2 k z p hz hp).below HB.out);have hg'w:g'<wr.heap.size:=Nat.lt_of_lt_of_le hg'.1 (Nat.le_trans HB3.out.size HB.out.size);have HGPN:¬g'=w3.heap.size:=by have:=hg'.1;have h9:=HB3.out.size;omega
          have hltz':(k:Int)<(n:Int):=by have:=hltz;omega
          have HFe:=Lib.hid (row_ff2 (hg.below (bl_call (bl_call HB2.out HB3.out) HB.out)) hy (hg'.below (bl_call HB3.out HB.out)) hz HF.out);have HTK:=Lib.hid (fold_snoc (f:=(· + ·)) (z:=0) (show ds[k]?=some (q*p) by rw [←HDS.out];exact zip_at' hq hp));obtain⟨u,hu⟩:∃u,(ds.take k).foldl (· + ·) 0=u:=⟨_,rfl⟩;rw [hu]at HTK HO;have HKK:=Lib.hid (show 69+70*k≤1000000 by omega);have HPW:=Lib.hid (show ∀k',wr.heap.size≤k'→Gp (fun _=>True) w3.heap.size 1 k' from fun k' hk'=>⟨trivial,.inr (by omega)⟩);clear hy hq hg hz hp hg' hu;obtain⟨_,_,_,_,_,_,_,_,-⟩:=HFe.out.alls 4 8;go_wp2_with fail
          refine OrdL.begin_ (S:=fun W=>W.cell? ⟨w3.heap.size,0,none⟩=some (.bool o.num.b)∧W.cell? ⟨w3.heap.size,1,none⟩=some (.slice o.num.A o.num.n o.num.c)∧W.cell? ⟨w3.heap.size,2,none⟩=some (.bool o.den.b)∧W.cell? ⟨w3.heap.size,3,none⟩=some (.slice o.den.A o.den.n o.den.c)∧W.cell? ⟨g,k*4,none⟩=some (.bool y.num.b)∧W.cell? ⟨g,k*4+1,none⟩=some (.slice y.num.A y.num.n y.num.c)∧W.cell? ⟨g,k*4+2,none⟩=some (.bool y.den.b)∧W.cell? ⟨g,k*4+3,none⟩=some (.slice y.den.A y.den.n y.den.c)∧W.cell? ⟨g',k*4,none⟩=some (.bool z.num.b)∧W.cell? ⟨g',k*4+1,none⟩=some (.slice z.num.A z.num.n z.num.c)∧W.cell? ⟨g',k*4+2,none⟩=some (.bool z.den.b)∧W.cell? ⟨g',k*4+3,none⟩=some (.slice z.den.A z.den.n z.den.c)) [] [11] (by kernel_rfl) ?_ (fun hHeld=>?_);focus ((try dsimp only);exact(HFe.out.go blq).all 0 12)
          refine OrdL.tk 0 (some 41) ?_;refine nw ?_;refine OrdL.tk 1 (some 42) ?_;refine nw ?_;refine OrdL.tk 2 (some 43) ?_;refine nw ?_;refine OrdL.tk 3 (some 44) ?_;refine nw ?_;refine OrdL.tk 4 (some 45) ?_;refine nw ?_;refine OrdL.tk 5 (some 46) ?_;refine nw ?_;refine OrdL.tk 6 (some 47) ?_;refine nw ?_;refine OrdL.tk 7 (some 48) ?_;refine nw ?_;refine OrdL.tk 8 (some 49) ?_;refine nw ?_;refine OrdL.st 9 fun Kc hKc=>?_
          refine nv ?_;go_simp
          refine(c_FMul (P:=Gp (fun _=>True) w3.heap.size 1) (HY.out.below blq) (HZ.out.below blq) (by decide) (fun k' hk'=>HPW.out k' (Nat.le_trans arq hk'))).mono ?_;rintro e w11 ⟨m,rfl,hm,hb11⟩;have HF11:=fgo w11 HFe;have hz11:=HF11.out.1;have hx11_0:w3.heap.size<w11.heap.size:=(by omega);have hx11_1:g<w11.heap.size:=(by omega);have hx11_2:g'<w11.heap.size:=(by omega);obtain⟨_,_,_,_,_,_,_,_,_,_,_,_,-⟩:=HF11.out.alls 0 12;have HM:=Lib.hid (show IsF (Gp (fun _=>True) w3.heap.size 1) 69 _ m (q*p)from hm);clear hm;go_wp2_with fail
          refine hKc.out _ _ ?_ (fun hHeld=>?_);focus ((try dsimp only);exact(HF11.out.go blq).all 0 12)
          clear hKc Kc;refine nw ?_;refine OrdL.st 10 fun Kc hKc=>?_
          refine nv ?_;go_simp
          refine(c_FAdd (P:=Gp (fun _=>True) w3.heap.size 1) (K:=69+70*k) (HO.out.below blq) ((HM.out.wide (by omega)).below blq) (by have:=HKK.out;omega) (fun k' hk'=>HPW.out k' (Nat.le_trans arq hk'))).mono ?_;rintro e w12 ⟨r,rfl,hr,hb12⟩;have HF12:=fgo w12 HF11;have hz12:=HF12.out.1;have hx12_0:w3.heap.size<w12.heap.size:=(by omega);have hx12_1:g<w12.heap.size:=(by omega);have hx12_2:g'<w12.heap.size:=(by omega);obtain⟨_,_,_,_,_,_,_,_,_,_,_,_,-⟩:=HF12.out.alls 0 12;have HR:=Lib.hid (show IsF (Gp (fun _=>True) w3.heap.size 1) (69+70*k+70) _ r (u+q*p)from hr.tight (by have h8:=add_bd (B:=1000000000) (by decide) HO.out.bdn HO.out.bdd HM.out.bdn HM.out.bdd;exact h8.1) (by have h8:=add_bd (B:=1000000000) (by decide) HO.out.bdn HO.out.bdd HM.out.bdn HM.out.bdd;exact h8.2));clear hr;obtain⟨_,_,_,_,-⟩:=HF12.out.falls 0 4;go_wp2_with fail
          refine hKc.out _ _ ?_ (fun hHeld=>?_);focus ((try dsimp only);exact(HF12.out.go blq).all 0 12)
          clear hKc Kc;refine nw ?_;refine OrdL.last (i:=11) rfl (by decide) (by decide) (by kernel_rfl) (fun Kc hKc=>?_);refine nv ?_;go_simp
          refine hKc.out _ _ ?_;clear hKc Kc;refine nw ?_;refine OrdL.done (by kernel_rfl) ?_ _;go_wp2_with fail
          go_roundw
          case rel =>
           refine TotRelF.mk' (o:=r) (k:=k+1) hlt ?_ ?_ ?_
           · rw [HTK.out,show 69+70*(k+1)=69+70*k+70 by omega];exact((((HR.out.put _ arq arq).put _ arq arq).put _ arq arq).put _ arq arq)
           · exact((((((HF.out.go blq).sets w3.heap.size 0 (.bool r.num.b)).sets w3.heap.size 1 (.slice r.num.A r.num.n r.num.c)).sets w3.heap.size 2 (.bool r.den.b)).sets w3.heap.size 3 (.slice r.den.A r.den.n r.den.c))).eq (by simp [HGNN,HGPN])
           · have hb9:=HB.out;exact blq
          case measure=>simp [intOf];omega
        · obtain rfl:k=ds.length:=by omega
          have HQ:=Lib.hid (show IsF _ _ wr o (ds.foldl (· + ·) 0) by have h9:=HO.out;rw [List.take_of_length_le (Nat.le_refl _)]at h9;exact h9);have hnk:(n:Int)=(ds.length:Int):=by rw [HNX.out]
          go_wp2_with fail
          refine(c_told (HQ.out.below blq) (by omega)).mono ?_;rintro e w5 ⟨rfl,hb5⟩;go_wp2_with fail
          go_ret2
          exact⟨by rw [HE.out];rfl,by have hb9:=bl_call (bl_call (bl_call HB1.out HB2.out) HB3.out) HB.out;exact blq⟩
     · have HE:=Lib.hid (show rDot bs cs=(nob,3) by rw [rDot,HQS.out,hp];exact if_neg (by rw [HL1.out,HL2.out];exact hne));have hne':¬(bs.length:Int)=(cs.length:Int):=by omega
       clear hp hR hFs hb2;go_wp2_with fail
       go_ret2
       exact⟨by rw [HE.out];rfl,by have hb9:=bl_call HB1.out HB2.out;exact blq⟩
   · have HE:=Lib.hid (show rDot bs cs=(nob,1) by rw [rDot,HQS.out,hno]);clear hno;go_wp2_with fail
     go_ret2
     exact⟨by rw [HE.out];rfl,by have hb9:=bl_call HB1.out hb2;exact blq⟩
 · have HE:=Lib.hid (show rDot bs cs=(nob,1) by rw [rDot,hno]);clear hno;have HB1:=Lib.hid hb1;clear hb1;go_wp2_with fail
   refine(c_parsed (P:=fun _=>True) cs (Kd.C_below HAcs.out HB1.out) (by have:=HNcs.out;omega) HScs.out (fun _ _=>trivial)).mono ?_;rintro e w2 ⟨⟨ps,ys,v,hp,rfl,hR,hFs⟩|⟨hno,rfl⟩,hb2⟩;all_goals
    go_wp2_with fail
    go_ret2
    exact⟨by rw [HE.out];rfl,by have hb9:=bl_call HB1.out hb2;exact blq⟩
end
end Go.Proofs.YtpdghgfbfmaplaaGreatDoor.Rf
end
