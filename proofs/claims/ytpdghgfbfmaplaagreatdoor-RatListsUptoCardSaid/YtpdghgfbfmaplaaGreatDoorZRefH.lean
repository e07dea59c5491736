/- Lemmas for RatLists. -/
import Derived.Test.YtpdghgfbfmaplaaGreatDoorZRefG
set_option maxRecDepth 100000
set_option maxHeartbeats 8000000
section
set_option linter.unusedVariables false
set_option linter.unusedSimpArgs false
namespace Go.Proofs.YtpdghgfbfmaplaaGreatDoor.Rf
open Go.RowKit Go.Proofs.YtpdghgfbfmaplaaGreatDoorW.PrintWords Go.Proofs.YtpdghgfbfmaplaaGreatDoor.Num Go.Proofs.YtpdghgfbfmaplaaGreatDoor.PRef Go.Proofs.YtpdghgfbfmaplaaGreatDoor.WhC Go.Proofs.YtpdghgfbfmaplaaGreatDoor.Dec Go.Proofs.YtpdghgfbfmaplaaGreatDoor.Wh
def sgl(neg:Bool)(l:List UInt8):List UInt8:=if neg=true then 45 :: l else l
def bs(l:List UInt8):ByteArray:=⟨l.toArray⟩
theorem bs_list(l:List UInt8):(bs l).data.toList=l:=by simp [bs]
theorem bs_size(l:List UInt8):(bs l).size=l.length:=by show l.toArray.size=_;simp
theorem bs_get(l:List UInt8)(i:Nat)(hi:i<l.length):∀h,(((bs l)[i]'h).toNat:Int)=(l[i].toNat:Int):=fun h=>rfl
theorem bs_at(l:List UInt8)(i:Nat)(c:UInt8)(hc:l[i]?=some c):∀h,(((bs l)[i]'h).toNat:Int)=(c.toNat:Int):=fun h=>by
 obtain⟨h1,h2⟩:=List.getElem?_eq_some_iff.1 hc
 rw [←h2];exact bs_get l i h1 h
theorem bs_cut(l:List UInt8)(i j:Nat):(bs l).extract i j=bs ((l.drop i).take (j-i)):=by
 apply ByteArray.ext
 simp [bs,ByteArray.data_extract]
theorem bs_of'{s:ByteArray}{l:List UInt8}(h:s.data.toList=l):s=bs l:=by subst h;cases s;simp [bs]
theorem start_of{s:ByteArray}{neg:Bool}{l:List UInt8}(hs:s.data.toList=sgl neg l)(hn:neg=false→l.head?≠some 45) :
 (neg=true∧0<s.size∧(∀h,((s[0]'h).toNat:Int)=45)∧s.extract 1 s.size=bs l)∨(neg=false∧s=bs l∧¬0<s.size)∨(neg=false∧s=bs l∧0<s.size∧∃y:Int,(y==45)=false∧∀h,((s[0]'h).toNat:Int)=y):=by
 cases neg with
 | true =>
  obtain rfl:=bs_of' hs;refine .inl ⟨rfl,by rw [bs_size];simp [sgl],fun h=>rfl,?_⟩;rw [bs_cut,bs_size];simp [sgl]
 | false =>
  obtain rfl:=bs_of' hs;cases l with
  | nil=>exact .inr (.inl ⟨rfl,rfl,by rw [bs_size];simp [sgl]⟩)
  | cons c t =>
   refine .inr (.inr ⟨rfl,rfl,by rw [bs_size];simp [sgl],(c.toNat:Int),?_,fun h=>rfl⟩);have h1:=hn rfl;simp only [List.head?_cons,ne_eq,Option.some.injEq]at h1;rw [beq_eq_false_iff_ne];intro h2
   exact h1 (u8_eq (by have : (45 : UInt8).toNat = 45 := rfl
                       omega))
def RdR(n:Nat)(W0:World)(m:Nat)(v5:Value)(W:World):Prop:=m≤n∧v5=.int .i64 ((n-m:Nat):Int)∧W=W0
theorem no47{a:List UInt8}(ha:(47:UInt8)∉a)(i:Nat)(hi:i<a.length):((a[i].toNat:Int)==47)=false:=by
 rw [beq_eq_false_iff_ne]
 intro h
 exact ha (by
  have : a[i] = 47 := u8_eq (by have : (47 : UInt8).toNat = 47 := rfl
                                omega)
  rw [←this];exact List.getElem_mem hi)
theorem nz_of{P:Nat→Prop}{K:Nat}{w:World}{A:Option Addr}{n c m:Nat}(h:IsD P K w A n c (m:Int))(hz:m≠0):((n:Int)==0)=false:=by
 rw [beq_eq_false_iff_ne]
 intro h1
 have:=(isd_nil h).1 (by omega)
 omega
theorem z_of{P:Nat→Prop}{K:Nat}{w:World}{A:Option Addr}{n c m:Nat}(h:IsD P K w A n c (m:Int))(hz:m=0):((n:Int)==0)=true:=by
 rw [beq_iff_eq]
 have:=(isd_nil h).2 (by omega)
 omega
theorem isq_read{P:Nat→Prop}{K:Nat}{w:World}{A A':Option Addr}{n c n' c' m d:Nat}{neg:Bool}{q:Rat}(h1:IsD P 75 w A n c (m:Int))(h2:IsD P K w A' n' c' (d:Int))(hq:q.num.natAbs=m∧q.den=d∧neg=decide (q.num<0))(hK:d<10000^75:=by first|exact(by decide)|assumption):IsQ P 75 w ⟨neg,A,n,c,A',n',c'⟩ q:=by
 obtain⟨e1,e2,e3⟩:=hq
 exact⟨by rw [e1];exact h1,by rw [e2];exact h2.tight (by simpa using hK),e3⟩
section
variable {w:World} {s:ByteArray} {neg:Bool} {a b:List UInt8}
theorem read_na0(hs:s.data.toList=sgl neg (a++([]:List UInt8)))(hn:neg=false→(a++([]:List UInt8)).head?≠some 45)(ha:(47:UInt8)∉a)(hz:s.size≤140737488351232)(hg:¬Good a) :
 Calls Tryz.prog 51 #[.string s] w fun e w'=>e=.returned (.tuple #[.agg #[.bool false,.slice none 0 0,.slice none 0 0],.bool false])∧Below w.heap.size w w':=by
 have HST:=Lib.hid (start_of hs hn)
 have hlen:(a++([]:List UInt8)).length≤140737488351232:=by
  have h1:s.data.toList.length=s.size:=by rw [Array.length_toList];rfl
  rw [hs]at h1;cases neg <;> simp [sgl]at h1 ⊢ <;> omega
 obtain⟨s1,h1⟩:∃s1,bs (a++([]:List UInt8))=s1:=⟨_,rfl⟩
 have H47:=Lib.hid (fun i (hi:i<a.length)=>(⟨_,no47 ha i hi,by rw [←h1];exact bs_at _ i _ (by rw [List.getElem?_append_left hi,List.getElem?_eq_getElem hi])⟩:∃y:Int,(y==47)=false∧∀h,((s1[i]'h).toNat:Int)=y))
 have HS1:=Lib.hid (show a.length≤s1.size by rw [←h1,bs_size];simp)
 have E1:s1.extract 0 a.length=bs a:=by rw [←h1,bs_cut];simp
 have hend:¬a.length<s1.size:=by rw [←h1,bs_size];simp
 rw [h1]at HST
 have HLEN:=Lib.hid (show s1.size≤140737488351232 by rw [←h1,bs_size];exact hlen)
 have hla:a.length≤140737488351232:=by simp at hlen;omega
 have HG:=Lib.hid hg
 clear hg
 have HSA:=Lib.hid (show(bs a).size≤140737488351232 by rw [bs_size];exact hla)
 clear hs hn ha hz hlen h1
 have HF0:=Lib.hid (show Fr [(w.heap.size,0,(.bool false)),(w.heap.size,1,(.slice none 0 0)),(w.heap.size,2,(.slice none 0 0))] (w.heap.size+1) (w.alloc (.cells #[.bool false,.slice none 0 0,.slice none 0 0] 60))from frq)
 go_enter Tryz.func51,Tryz.ntmps51
 rcases HST.out with ⟨rfl,h0,h2,h3⟩|⟨rfl,rfl,h0⟩|⟨rfl,rfl,h0,y,hy,h2⟩
 all_goals (
  go_wp2_with fail
  try clear h2
  try clear h3
  try clear hy
  clear h0;go_loopg [5] a.length (fun m v5 W=>RdR a.length (w.alloc (.cells #[.bool false,.slice none 0 0,.slice none 0 0] 60)) m v5 W)
  case atStart=>exact ⟨Nat.le_refl _,by rw [Nat.sub_self];rfl,rfl⟩
  case round =>
   obtain⟨hm,rfl,rfl⟩:=hrel;cases gk with
   | succ m =>
    obtain⟨i,hi⟩:∃i,i=a.length-(m+1):=⟨_,rfl⟩;rw [←hi];have hia:i<a.length:=by omega
    have HI:=Lib.hid (show a.length-m=i+1∧m≤a.length by omega);obtain⟨y5,hy5,hx5⟩:=H47.out i hia;have his:=Nat.lt_of_lt_of_le hia HS1.out;have HW5:=Lib.hid (show wrap64 ((i:Int)+1)=((i+1:Nat):Int) by rw [w64 (by omega) (by omega)];omega);have e5:=wrp HW5.out;clear hi hm;go_wp2_with fail
    go_roundg m
    case measure=>exact Nat.lt_succ_self _
    case rel=>exact ⟨HI.out.2,by first|rfl|(rw [HI.out.1];rfl)|(rw [HI.out.1];rw [HW5.out]),rfl⟩
   | zero =>
    rw [Nat.sub_zero];clear hm;go_wp2_with fail
    refine(d_digits (bs a) HSA.out false (by rw [bs_list];exact⟨fun h=>(by cases h),fun h=>absurd h HG.out⟩)).mono ?_;rintro e w1 ⟨rfl,hb1⟩;have HF1:=Lib.hid (show Fr _ _ w1 from HF0.out.go blr);have hz1:=HF1.out.1;obtain⟨q1_0,q1_1,q1_2,-⟩:=HF1.out.alls 0 3;obtain⟨_,_,_,-⟩:=HF1.out.falls 0 3;go_wp2_with fail
    refine bodyPost_ret (v:=.tuple #[.agg #[.bool false,.slice none 0 0,.slice none 0 0],.bool false]) (by simp [results,Tryz.results51,go_sem,q1_0,q1_1,q1_2]) rfl ⟨rfl,blr⟩)
theorem read_na1(hs:s.data.toList=sgl neg (a++47 :: b))(hn:neg=false→(a++47 :: b).head?≠some 45)(ha:(47:UInt8)∉a)(hz:s.size≤140737488351232)(hg:¬Good a) :
 Calls Tryz.prog 51 #[.string s] w fun e w'=>e=.returned (.tuple #[.agg #[.bool false,.slice none 0 0,.slice none 0 0],.bool false])∧Below w.heap.size w w':=by
 have HST:=Lib.hid (start_of hs hn)
 have hlen:(a++47 :: b).length≤140737488351232:=by
  have h1:s.data.toList.length=s.size:=by rw [Array.length_toList];rfl
  rw [hs]at h1;cases neg <;> simp [sgl]at h1 ⊢ <;> omega
 obtain⟨s1,h1⟩:∃s1,bs (a++47 :: b)=s1:=⟨_,rfl⟩
 have H47:=Lib.hid (fun i (hi:i<a.length)=>(⟨_,no47 ha i hi,by rw [←h1];exact bs_at _ i _ (by rw [List.getElem?_append_left hi,List.getElem?_eq_getElem hi])⟩:∃y:Int,(y==47)=false∧∀h,((s1[i]'h).toNat:Int)=y))
 have HS1:=Lib.hid (show a.length≤s1.size by rw [←h1,bs_size];simp)
 have E1:s1.extract 0 a.length=bs a:=by rw [←h1,bs_cut];simp
 have hend:a.length<s1.size:=by rw [←h1,bs_size];simp
 have hx47:∀h,((s1[a.length]'h).toNat:Int)=47:=by rw [←h1];exact bs_at _ a.length 47 (by rw [List.getElem?_append_right (Nat.le_refl _),Nat.sub_self];rfl)
 have E2:s1.extract (a.length+1) s1.size=bs b:=by rw [←h1,bs_cut,bs_size,show a++47 :: b=(a++ [47])++b by simp,List.drop_left' (by simp),List.take_of_length_le (by simp;omega)]
 have e9:=wrp (show wrap64 ((a.length:Int)+1)=((a.length+1:Nat):Int) by rw [w64 (by simp at hlen;omega) (by simp at hlen;omega)];omega)
 have HL1:=Lib.hid (show a.length+1≤s1.size from hend)
 rw [h1]at HST
 have HLEN:=Lib.hid (show s1.size≤140737488351232 by rw [←h1,bs_size];exact hlen)
 have hla:a.length≤140737488351232:=by simp at hlen;omega
 have HG:=Lib.hid hg
 clear hg
 have HSA:=Lib.hid (show(bs a).size≤140737488351232 by rw [bs_size];exact hla)
 clear hs hn ha hz hlen h1
 have HF0:=Lib.hid (show Fr [(w.heap.size,0,(.bool false)),(w.heap.size,1,(.slice none 0 0)),(w.heap.size,2,(.slice none 0 0))] (w.heap.size+1) (w.alloc (.cells #[.bool false,.slice none 0 0,.slice none 0 0] 60))from frq)
 go_enter Tryz.func51,Tryz.ntmps51
 rcases HST.out with ⟨rfl,h0,h2,h3⟩|⟨rfl,rfl,h0⟩|⟨rfl,rfl,h0,y,hy,h2⟩
 all_goals (
  go_wp2_with fail
  try clear h2
  try clear h3
  try clear hy
  clear h0;go_loopg [5] a.length (fun m v5 W=>RdR a.length (w.alloc (.cells #[.bool false,.slice none 0 0,.slice none 0 0] 60)) m v5 W)
  case atStart=>exact ⟨Nat.le_refl _,by rw [Nat.sub_self];rfl,rfl⟩
  case round =>
   obtain⟨hm,rfl,rfl⟩:=hrel;cases gk with
   | succ m =>
    obtain⟨i,hi⟩:∃i,i=a.length-(m+1):=⟨_,rfl⟩;rw [←hi];have hia:i<a.length:=by omega
    have HI:=Lib.hid (show a.length-m=i+1∧m≤a.length by omega);obtain⟨y5,hy5,hx5⟩:=H47.out i hia;have his:=Nat.lt_of_lt_of_le hia HS1.out;have HW5:=Lib.hid (show wrap64 ((i:Int)+1)=((i+1:Nat):Int) by rw [w64 (by omega) (by omega)];omega);have e5:=wrp HW5.out;clear hi hm;go_wp2_with fail
    go_roundg m
    case measure=>exact Nat.lt_succ_self _
    case rel=>exact ⟨HI.out.2,by first|rfl|(rw [HI.out.1];rfl)|(rw [HI.out.1];rw [HW5.out]),rfl⟩
   | zero =>
    rw [Nat.sub_zero];clear hm;go_wp2_with fail
    refine(d_digits (bs a) HSA.out false (by rw [bs_list];exact⟨fun h=>(by cases h),fun h=>absurd h HG.out⟩)).mono ?_;rintro e w1 ⟨rfl,hb1⟩;have HF1:=Lib.hid (show Fr _ _ w1 from HF0.out.go blr);have hz1:=HF1.out.1;obtain⟨q1_0,q1_1,q1_2,-⟩:=HF1.out.alls 0 3;obtain⟨_,_,_,-⟩:=HF1.out.falls 0 3;go_wp2_with fail
    refine bodyPost_ret (v:=.tuple #[.agg #[.bool false,.slice none 0 0,.slice none 0 0],.bool false]) (by simp [results,Tryz.results51,go_sem,q1_0,q1_1,q1_2]) rfl ⟨rfl,blr⟩)
theorem read_z0(hs:s.data.toList=sgl neg (a++([]:List UInt8)))(hn:neg=false→(a++([]:List UInt8)).head?≠some 45)(ha:(47:UInt8)∉a)(hz:s.size≤140737488351232){P:Nat→Prop}(hP:∀k,w.heap.size≤k→P k)(hneg:neg=true)(hg:Good a)(h0:dval a=0) :
 Calls Tryz.prog 51 #[.string s] w fun e w'=>e=.returned (.tuple #[.agg #[.bool false,.slice none 0 0,.slice none 0 0],.bool false])∧Below w.heap.size w w':=by
 have HST:=Lib.hid (start_of hs hn)
 have hlen:(a++([]:List UInt8)).length≤140737488351232:=by
  have h1:s.data.toList.length=s.size:=by rw [Array.length_toList];rfl
  rw [hs]at h1;cases neg <;> simp [sgl]at h1 ⊢ <;> omega
 obtain⟨s1,h1⟩:∃s1,bs (a++([]:List UInt8))=s1:=⟨_,rfl⟩
 have H47:=Lib.hid (fun i (hi:i<a.length)=>(⟨_,no47 ha i hi,by rw [←h1];exact bs_at _ i _ (by rw [List.getElem?_append_left hi,List.getElem?_eq_getElem hi])⟩:∃y:Int,(y==47)=false∧∀h,((s1[i]'h).toNat:Int)=y))
 have HS1:=Lib.hid (show a.length≤s1.size by rw [←h1,bs_size];simp)
 have E1:s1.extract 0 a.length=bs a:=by rw [←h1,bs_cut];simp
 have hend:¬a.length<s1.size:=by rw [←h1,bs_size];simp
 rw [h1]at HST
 have HLEN:=Lib.hid (show s1.size≤140737488351232 by rw [←h1,bs_size];exact hlen)
 have hla:a.length≤140737488351232:=by simp at hlen;omega
 have HZ0:=Lib.hid h0
 clear h0
 have HP:=Lib.hid hP
 clear hP
 have HG:=Lib.hid hg
 have HDA:=Lib.hid (show(bs a).size≤4*75 by rw [bs_size];exact hg.2.2)
 have HDG:=Lib.hid (show Digs (bs a).data.toList by rw [bs_list];exact hg.1)
 clear hg
 have HSA:=Lib.hid (show(bs a).size≤140737488351232 by rw [bs_size];exact hla)
 subst hneg
 clear hs hn ha hz hlen h1
 have HF0:=Lib.hid (show Fr [(w.heap.size,0,(.bool false)),(w.heap.size,1,(.slice none 0 0)),(w.heap.size,2,(.slice none 0 0))] (w.heap.size+1) (w.alloc (.cells #[.bool false,.slice none 0 0,.slice none 0 0] 60))from frq)
 go_enter Tryz.func51,Tryz.ntmps51
 rcases HST.out with ⟨_,h0,h2,h3⟩|⟨h,_⟩|⟨h,_⟩
 rotate_left
 · cases h
 · cases h
 all_goals (
  go_wp2_with fail
  try clear h2
  try clear h3
  clear h0;go_loopg [5] a.length (fun m v5 W=>RdR a.length (w.alloc (.cells #[.bool false,.slice none 0 0,.slice none 0 0] 60)) m v5 W)
  case atStart=>exact ⟨Nat.le_refl _,by rw [Nat.sub_self];rfl,rfl⟩
  case round =>
   obtain⟨hm,rfl,rfl⟩:=hrel;cases gk with
   | succ m =>
    obtain⟨i,hi⟩:∃i,i=a.length-(m+1):=⟨_,rfl⟩;rw [←hi];have hia:i<a.length:=by omega
    have HI:=Lib.hid (show a.length-m=i+1∧m≤a.length by omega);obtain⟨y5,hy5,hx5⟩:=H47.out i hia;have his:=Nat.lt_of_lt_of_le hia HS1.out;have HW5:=Lib.hid (show wrap64 ((i:Int)+1)=((i+1:Nat):Int) by rw [w64 (by omega) (by omega)];omega);have e5:=wrp HW5.out;clear hi hm;go_wp2_with fail
    go_roundg m
    case measure=>exact Nat.lt_succ_self _
    case rel=>exact ⟨HI.out.2,by first|rfl|(rw [HI.out.1];rfl)|(rw [HI.out.1];rw [HW5.out]),rfl⟩
   | zero =>
    rw [Nat.sub_zero];clear hm;go_wp2_with fail
    refine(d_digits (bs a) HSA.out true (by rw [bs_list];exact⟨fun _=>HG.out,fun _=>rfl⟩)).mono ?_;rintro e w1 ⟨rfl,hb1⟩;have HF1:=Lib.hid (show Fr _ _ w1 from HF0.out.go blr);have hz1:=HF1.out.1;obtain⟨_,_,_,-⟩:=HF1.out.alls 0 3;obtain⟨_,_,_,-⟩:=HF1.out.falls 0 3;go_wp2_with fail
    refine(d_readNat (P:=Gp P w.heap.size 1) (K:=75) (bs a) HDG.out HDA.out (by decide) (gap_fresh HP.out blr arq)).mono ?_;rintro e w2 ⟨A1,n1,c1,rfl,h1,hb2⟩;rw [bs_list]at h1;have H1:=Lib.hid h1;clear h1;have HF2:=Lib.hid (show Fr _ _ w2 from HF1.out.go blr);have hz2:=HF2.out.1;obtain⟨_,_,_,-⟩:=HF2.out.alls 0 3;obtain⟨_,_,_,-⟩:=HF2.out.falls 0 3;have hn0:=z_of H1.out HZ0.out;go_wp2_with fail
    refine(d_natOf (P:=Gp P w.heap.size 1) 1 (by decide) (by decide) (gap_fresh HP.out blr arq)).mono ?_;rintro e w3 ⟨A2,n2,c2,rfl,h2,hb3⟩;have H2:=Lib.hid h2;clear h2;have HF3:=Lib.hid (show Fr _ _ w3 from HF2.out.go blr);have hz3:=HF3.out.1;obtain⟨q3_0,q3_1,q3_2,-⟩:=HF3.out.alls 0 3;obtain⟨_,_,_,-⟩:=HF3.out.falls 0 3;go_wp2_with fail
    refine bodyPost_ret (v:=.tuple #[.agg #[.bool false,.slice none 0 0,.slice none 0 0],.bool false]) (by simp [results,Tryz.results51,go_sem,q3_0,q3_1,q3_2]) rfl ⟨rfl,blr⟩)
theorem read_y0(hs:s.data.toList=sgl neg (a++([]:List UInt8)))(hn:neg=false→(a++([]:List UInt8)).head?≠some 45)(ha:(47:UInt8)∉a)(hz:s.size≤140737488351232){P:Nat→Prop}(hP:∀k,w.heap.size≤k→P k){q:Rat}(hqn:q.num.natAbs=dval a)(hqd:q.den=1)(hqb:neg=decide (q.num<0))(hnz:neg=true→dval a≠0)(hg:Good a) :
 Calls Tryz.prog 51 #[.string s] w fun e w'=>∃r:QV,e=.returned (.tuple #[.agg #[.bool r.b,.slice r.nA r.nn r.nc,.slice r.dA r.dn r.dc],.bool true])∧IsQ P 75 w' r q∧Below w.heap.size w w':=by
 have HST:=Lib.hid (start_of hs hn)
 have hlen:(a++([]:List UInt8)).length≤140737488351232:=by
  have h1:s.data.toList.length=s.size:=by rw [Array.length_toList];rfl
  rw [hs]at h1;cases neg <;> simp [sgl]at h1 ⊢ <;> omega
 obtain⟨s1,h1⟩:∃s1,bs (a++([]:List UInt8))=s1:=⟨_,rfl⟩
 have H47:=Lib.hid (fun i (hi:i<a.length)=>(⟨_,no47 ha i hi,by rw [←h1];exact bs_at _ i _ (by rw [List.getElem?_append_left hi,List.getElem?_eq_getElem hi])⟩:∃y:Int,(y==47)=false∧∀h,((s1[i]'h).toNat:Int)=y))
 have HS1:=Lib.hid (show a.length≤s1.size by rw [←h1,bs_size];simp)
 have E1:s1.extract 0 a.length=bs a:=by rw [←h1,bs_cut];simp
 have hend:¬a.length<s1.size:=by rw [←h1,bs_size];simp
 rw [h1]at HST
 have HLEN:=Lib.hid (show s1.size≤140737488351232 by rw [←h1,bs_size];exact hlen)
 have hla:a.length≤140737488351232:=by simp at hlen;omega
 have HNZ:=Lib.hid hnz
 have HQ:=Lib.hid (show q.num.natAbs=dval a∧q.den=1∧neg=decide (q.num<0)from ⟨hqn,hqd,hqb⟩)
 clear hnz hqn hqd hqb
 have HP:=Lib.hid hP
 clear hP
 have HG:=Lib.hid hg
 have HDA:=Lib.hid (show(bs a).size≤4*75 by rw [bs_size];exact hg.2.2)
 have HDG:=Lib.hid (show Digs (bs a).data.toList by rw [bs_list];exact hg.1)
 clear hg
 have HSA:=Lib.hid (show(bs a).size≤140737488351232 by rw [bs_size];exact hla)
 clear hs hn ha hz hlen h1
 have HF0:=Lib.hid (show Fr [(w.heap.size,0,(.bool false)),(w.heap.size,1,(.slice none 0 0)),(w.heap.size,2,(.slice none 0 0))] (w.heap.size+1) (w.alloc (.cells #[.bool false,.slice none 0 0,.slice none 0 0] 60))from frq)
 go_enter Tryz.func51,Tryz.ntmps51
 rcases HST.out with ⟨rfl,h0,h2,h3⟩|⟨rfl,rfl,h0⟩|⟨rfl,rfl,h0,y,hy,h2⟩
 all_goals (
  go_wp2_with fail
  try clear h2
  try clear h3
  try clear hy
  clear h0;go_loopg [5] a.length (fun m v5 W=>RdR a.length (w.alloc (.cells #[.bool false,.slice none 0 0,.slice none 0 0] 60)) m v5 W)
  case atStart=>exact ⟨Nat.le_refl _,by rw [Nat.sub_self];rfl,rfl⟩
  case round =>
   obtain⟨hm,rfl,rfl⟩:=hrel;cases gk with
   | succ m =>
    obtain⟨i,hi⟩:∃i,i=a.length-(m+1):=⟨_,rfl⟩;rw [←hi];have hia:i<a.length:=by omega
    have HI:=Lib.hid (show a.length-m=i+1∧m≤a.length by omega);obtain⟨y5,hy5,hx5⟩:=H47.out i hia;have his:=Nat.lt_of_lt_of_le hia HS1.out;have HW5:=Lib.hid (show wrap64 ((i:Int)+1)=((i+1:Nat):Int) by rw [w64 (by omega) (by omega)];omega);have e5:=wrp HW5.out;clear hi hm;go_wp2_with fail
    go_roundg m
    case measure=>exact Nat.lt_succ_self _
    case rel=>exact ⟨HI.out.2,by first|rfl|(rw [HI.out.1];rfl)|(rw [HI.out.1];rw [HW5.out]),rfl⟩
   | zero =>
    rw [Nat.sub_zero];clear hm;go_wp2_with fail
    refine(d_digits (bs a) HSA.out true (by rw [bs_list];exact⟨fun _=>HG.out,fun _=>rfl⟩)).mono ?_;rintro e w1 ⟨rfl,hb1⟩;have HF1:=Lib.hid (show Fr _ _ w1 from HF0.out.go blr);have hz1:=HF1.out.1;obtain⟨_,_,_,-⟩:=HF1.out.alls 0 3;obtain⟨_,_,_,-⟩:=HF1.out.falls 0 3;go_wp2_with fail
    refine(d_readNat (P:=Gp P w.heap.size 1) (K:=75) (bs a) HDG.out HDA.out (by decide) (gap_fresh HP.out blr arq)).mono ?_;rintro e w2 ⟨A1,n1,c1,rfl,h1,hb2⟩;rw [bs_list]at h1;have H1:=Lib.hid h1;clear h1;have HF2:=Lib.hid (show Fr _ _ w2 from HF1.out.go blr);have hz2:=HF2.out.1;obtain⟨_,_,_,-⟩:=HF2.out.alls 0 3;obtain⟨_,_,_,-⟩:=HF2.out.falls 0 3;have hn0:=fun h=>nz_of H1.out (HNZ.out h)
    go_wp2_with fail
    refine(d_natOf (P:=Gp P w.heap.size 1) 1 (by decide) (by decide) (gap_fresh HP.out blr arq)).mono ?_;rintro e w3 ⟨A2,n2,c2,rfl,h2,hb3⟩;have H2:=Lib.hid h2;clear h2;have HF3:=Lib.hid (show Fr _ _ w3 from HF2.out.go blr);have hz3:=HF3.out.1;obtain⟨q3_0,q3_1,q3_2,-⟩:=HF3.out.alls 0 3;obtain⟨_,_,_,-⟩:=HF3.out.falls 0 3;go_wp2_with fail
    first|(refine bodyPost_ret (v:=.tuple #[.agg #[.bool true,.slice A1 n1 c1,.slice A2 n2 c2],.bool true]) (by simp [results,Tryz.results51,go_sem,q3_0,q3_1,q3_2]) rfl ⟨⟨true,A1,n1,c1,A2,n2,c2⟩,rfl,IsQ.ungap (s:=w.heap.size) (n:=1) ?_,blr⟩;exact((((isq_read (H1.out.below blr) (H2.out.below blr) HQ.out).put _ arq arq).put _ arq arq).put _ arq arq))|(refine bodyPost_ret (v:=.tuple #[.agg #[.bool false,.slice A1 n1 c1,.slice A2 n2 c2],.bool true]) (by simp [results,Tryz.results51,go_sem,q3_0,q3_1,q3_2]) rfl ⟨⟨false,A1,n1,c1,A2,n2,c2⟩,rfl,IsQ.ungap (s:=w.heap.size) (n:=1) ?_,blr⟩;exact((((isq_read (H1.out.below blr) (H2.out.below blr) HQ.out).put _ arq arq).put _ arq arq).put _ arq arq))|fail)
theorem read_nb(hs:s.data.toList=sgl neg (a++47 :: b))(hn:neg=false→(a++47 :: b).head?≠some 45)(ha:(47:UInt8)∉a)(hz:s.size≤140737488351232){P:Nat→Prop}(hP:∀k,w.heap.size≤k→P k)(hg:Good a)(hgb:¬Good b) :
 Calls Tryz.prog 51 #[.string s] w fun e w'=>e=.returned (.tuple #[.agg #[.bool false,.slice none 0 0,.slice none 0 0],.bool false])∧Below w.heap.size w w':=by
 have HST:=Lib.hid (start_of hs hn)
 have hlen:(a++47 :: b).length≤140737488351232:=by
  have h1:s.data.toList.length=s.size:=by rw [Array.length_toList];rfl
  rw [hs]at h1;cases neg <;> simp [sgl]at h1 ⊢ <;> omega
 obtain⟨s1,h1⟩:∃s1,bs (a++47 :: b)=s1:=⟨_,rfl⟩
 have H47:=Lib.hid (fun i (hi:i<a.length)=>(⟨_,no47 ha i hi,by rw [←h1];exact bs_at _ i _ (by rw [List.getElem?_append_left hi,List.getElem?_eq_getElem hi])⟩:∃y:Int,(y==47)=false∧∀h,((s1[i]'h).toNat:Int)=y))
 have HS1:=Lib.hid (show a.length≤s1.size by rw [←h1,bs_size];simp)
 have E1:s1.extract 0 a.length=bs a:=by rw [←h1,bs_cut];simp
 have hend:a.length<s1.size:=by rw [←h1,bs_size];simp
 have hx47:∀h,((s1[a.length]'h).toNat:Int)=47:=by rw [←h1];exact bs_at _ a.length 47 (by rw [List.getElem?_append_right (Nat.le_refl _),Nat.sub_self];rfl)
 have E2:s1.extract (a.length+1) s1.size=bs b:=by rw [←h1,bs_cut,bs_size,show a++47 :: b=(a++ [47])++b by simp,List.drop_left' (by simp),List.take_of_length_le (by simp;omega)]
 have e9:=wrp (show wrap64 ((a.length:Int)+1)=((a.length+1:Nat):Int) by rw [w64 (by simp at hlen;omega) (by simp at hlen;omega)];omega)
 have HL1:=Lib.hid (show a.length+1≤s1.size from hend)
 rw [h1]at HST
 have HLEN:=Lib.hid (show s1.size≤140737488351232 by rw [←h1,bs_size];exact hlen)
 have hla:a.length≤140737488351232:=by simp at hlen;omega
 have HGB:=Lib.hid hgb
 clear hgb
 have HP:=Lib.hid hP
 clear hP
 have HG:=Lib.hid hg
 have HDA:=Lib.hid (show(bs a).size≤4*75 by rw [bs_size];exact hg.2.2)
 have HDG:=Lib.hid (show Digs (bs a).data.toList by rw [bs_list];exact hg.1)
 clear hg
 have HSA:=Lib.hid (show(bs a).size≤140737488351232 by rw [bs_size];exact hla)
 have HSB:=Lib.hid (show(bs b).size≤140737488351232 by rw [bs_size];simp at hlen;omega)
 clear hs hn ha hz hlen h1
 have HF0:=Lib.hid (show Fr [(w.heap.size,0,(.bool false)),(w.heap.size,1,(.slice none 0 0)),(w.heap.size,2,(.slice none 0 0))] (w.heap.size+1) (w.alloc (.cells #[.bool false,.slice none 0 0,.slice none 0 0] 60))from frq)
 go_enter Tryz.func51,Tryz.ntmps51
 rcases HST.out with ⟨rfl,h0,h2,h3⟩|⟨rfl,rfl,h0⟩|⟨rfl,rfl,h0,y,hy,h2⟩
 all_goals (
  go_wp2_with fail
  try clear h2
  try clear h3
  try clear hy
  clear h0;go_loopg [5] a.length (fun m v5 W=>RdR a.length (w.alloc (.cells #[.bool false,.slice none 0 0,.slice none 0 0] 60)) m v5 W)
  case atStart=>exact ⟨Nat.le_refl _,by rw [Nat.sub_self];rfl,rfl⟩
  case round =>
   obtain⟨hm,rfl,rfl⟩:=hrel;cases gk with
   | succ m =>
    obtain⟨i,hi⟩:∃i,i=a.length-(m+1):=⟨_,rfl⟩;rw [←hi];have hia:i<a.length:=by omega
    have HI:=Lib.hid (show a.length-m=i+1∧m≤a.length by omega);obtain⟨y5,hy5,hx5⟩:=H47.out i hia;have his:=Nat.lt_of_lt_of_le hia HS1.out;have HW5:=Lib.hid (show wrap64 ((i:Int)+1)=((i+1:Nat):Int) by rw [w64 (by omega) (by omega)];omega);have e5:=wrp HW5.out;clear hi hm;go_wp2_with fail
    go_roundg m
    case measure=>exact Nat.lt_succ_self _
    case rel=>exact ⟨HI.out.2,by first|rfl|(rw [HI.out.1];rfl)|(rw [HI.out.1];rw [HW5.out]),rfl⟩
   | zero =>
    rw [Nat.sub_zero];clear hm;go_wp2_with fail
    refine(d_digits (bs a) HSA.out true (by rw [bs_list];exact⟨fun _=>HG.out,fun _=>rfl⟩)).mono ?_;rintro e w1 ⟨rfl,hb1⟩;have HF1:=Lib.hid (show Fr _ _ w1 from HF0.out.go blr);have hz1:=HF1.out.1;obtain⟨_,_,_,-⟩:=HF1.out.alls 0 3;obtain⟨_,_,_,-⟩:=HF1.out.falls 0 3;go_wp2_with fail
    refine(d_readNat (P:=Gp P w.heap.size 1) (K:=75) (bs a) HDG.out HDA.out (by decide) (gap_fresh HP.out blr arq)).mono ?_;rintro e w2 ⟨A1,n1,c1,rfl,h1,hb2⟩;rw [bs_list]at h1;have H1:=Lib.hid h1;clear h1;have HF2:=Lib.hid (show Fr _ _ w2 from HF1.out.go blr);have hz2:=HF2.out.1;obtain⟨_,_,_,-⟩:=HF2.out.alls 0 3;obtain⟨_,_,_,-⟩:=HF2.out.falls 0 3;go_wp2_with fail
    refine(d_natOf (P:=Gp P w.heap.size 1) 1 (by decide) (by decide) (gap_fresh HP.out blr arq)).mono ?_;rintro e w3 ⟨A2,n2,c2,rfl,h2,hb3⟩;have H2:=Lib.hid h2;clear h2;have HF3:=Lib.hid (show Fr _ _ w3 from HF2.out.go blr);have hz3:=HF3.out.1;obtain⟨_,_,_,-⟩:=HF3.out.alls 0 3;obtain⟨_,_,_,-⟩:=HF3.out.falls 0 3;go_wp2_with fail
    refine(d_digits (bs b) HSB.out false (by rw [bs_list];exact⟨fun h=>(by cases h),fun h=>absurd h HGB.out⟩)).mono ?_;rintro e w4 ⟨rfl,hb4⟩;have HF4:=Lib.hid (show Fr _ _ w4 from HF3.out.go blr);have hz4:=HF4.out.1;obtain⟨q4_0,q4_1,q4_2,-⟩:=HF4.out.alls 0 3;obtain⟨_,_,_,-⟩:=HF4.out.falls 0 3;go_wp2_with fail
    refine bodyPost_ret (v:=.tuple #[.agg #[.bool false,.slice none 0 0,.slice none 0 0],.bool false]) (by simp [results,Tryz.results51,go_sem,q4_0,q4_1,q4_2]) rfl ⟨rfl,blr⟩)
theorem read_d1(hs:s.data.toList=sgl neg (a++47 :: b))(hn:neg=false→(a++47 :: b).head?≠some 45)(ha:(47:UInt8)∉a)(hz:s.size≤140737488351232){P:Nat→Prop}(hP:∀k,w.heap.size≤k→P k)(hg:Good a)(hgb:Good b)(hd:dval b≤1) :
 Calls Tryz.prog 51 #[.string s] w fun e w'=>e=.returned (.tuple #[.agg #[.bool false,.slice none 0 0,.slice none 0 0],.bool false])∧Below w.heap.size w w':=by
 have HST:=Lib.hid (start_of hs hn)
 have hlen:(a++47 :: b).length≤140737488351232:=by
  have h1:s.data.toList.length=s.size:=by rw [Array.length_toList];rfl
  rw [hs]at h1;cases neg <;> simp [sgl]at h1 ⊢ <;> omega
 obtain⟨s1,h1⟩:∃s1,bs (a++47 :: b)=s1:=⟨_,rfl⟩
 have H47:=Lib.hid (fun i (hi:i<a.length)=>(⟨_,no47 ha i hi,by rw [←h1];exact bs_at _ i _ (by rw [List.getElem?_append_left hi,List.getElem?_eq_getElem hi])⟩:∃y:Int,(y==47)=false∧∀h,((s1[i]'h).toNat:Int)=y))
 have HS1:=Lib.hid (show a.length≤s1.size by rw [←h1,bs_size];simp)
 have E1:s1.extract 0 a.length=bs a:=by rw [←h1,bs_cut];simp
 have hend:a.length<s1.size:=by rw [←h1,bs_size];simp
 have hx47:∀h,((s1[a.length]'h).toNat:Int)=47:=by rw [←h1];exact bs_at _ a.length 47 (by rw [List.getElem?_append_right (Nat.le_refl _),Nat.sub_self];rfl)
 have E2:s1.extract (a.length+1) s1.size=bs b:=by rw [←h1,bs_cut,bs_size,show a++47 :: b=(a++ [47])++b by simp,List.drop_left' (by simp),List.take_of_length_le (by simp;omega)]
 have e9:=wrp (show wrap64 ((a.length:Int)+1)=((a.length+1:Nat):Int) by rw [w64 (by simp at hlen;omega) (by simp at hlen;omega)];omega)
 have HL1:=Lib.hid (show a.length+1≤s1.size from hend)
 rw [h1]at HST
 have HLEN:=Lib.hid (show s1.size≤140737488351232 by rw [←h1,bs_size];exact hlen)
 have hla:a.length≤140737488351232:=by simp at hlen;omega
 obtain⟨r,hr⟩:∃r,((dval b:Int)-1).sign=r:=⟨_,rfl⟩
 have hr0:r≤0:=by
  rcases Int.lt_or_eq_of_le (show(dval b:Int)-1≤0 by omega)with h|h
  · rw [Int.sign_eq_neg_one_of_neg h]at hr;omega
  · rw [h]at hr;simp at hr;omega
 have hr1:decide (r≤0)=true:=decide_eq_true hr0
 have HS:=Lib.hid hr
 clear hr hd
 have HP:=Lib.hid hP
 clear hP
 have HG:=Lib.hid hg
 have HDA:=Lib.hid (show(bs a).size≤4*75 by rw [bs_size];exact hg.2.2)
 have HDG:=Lib.hid (show Digs (bs a).data.toList by rw [bs_list];exact hg.1)
 clear hg
 have HGB:=Lib.hid hgb
 have HDB:=Lib.hid (show(bs b).size≤4*75 by rw [bs_size];exact hgb.2.2)
 have HDGB:=Lib.hid (show Digs (bs b).data.toList by rw [bs_list];exact hgb.1)
 clear hgb
 have HSA:=Lib.hid (show(bs a).size≤140737488351232 by rw [bs_size];exact hla)
 have HSB:=Lib.hid (show(bs b).size≤140737488351232 by rw [bs_size];simp at hlen;omega)
 clear hs hn ha hz hlen h1
 have HF0:=Lib.hid (show Fr [(w.heap.size,0,(.bool false)),(w.heap.size,1,(.slice none 0 0)),(w.heap.size,2,(.slice none 0 0))] (w.heap.size+1) (w.alloc (.cells #[.bool false,.slice none 0 0,.slice none 0 0] 60))from frq)
 go_enter Tryz.func51,Tryz.ntmps51
 rcases HST.out with ⟨rfl,h0,h2,h3⟩|⟨rfl,rfl,h0⟩|⟨rfl,rfl,h0,y,hy,h2⟩
 all_goals (
  go_wp2_with fail
  try clear h2
  try clear h3
  try clear hy
  clear h0;go_loopg [5] a.length (fun m v5 W=>RdR a.length (w.alloc (.cells #[.bool false,.slice none 0 0,.slice none 0 0] 60)) m v5 W)
  case atStart=>exact ⟨Nat.le_refl _,by rw [Nat.sub_self];rfl,rfl⟩
  case round =>
   obtain⟨hm,rfl,rfl⟩:=hrel;cases gk with
   | succ m =>
    obtain⟨i,hi⟩:∃i,i=a.length-(m+1):=⟨_,rfl⟩;rw [←hi];have hia:i<a.length:=by omega
    have HI:=Lib.hid (show a.length-m=i+1∧m≤a.length by omega);obtain⟨y5,hy5,hx5⟩:=H47.out i hia;have his:=Nat.lt_of_lt_of_le hia HS1.out;have HW5:=Lib.hid (show wrap64 ((i:Int)+1)=((i+1:Nat):Int) by rw [w64 (by omega) (by omega)];omega);have e5:=wrp HW5.out;clear hi hm;go_wp2_with fail
    go_roundg m
    case measure=>exact Nat.lt_succ_self _
    case rel=>exact ⟨HI.out.2,by first|rfl|(rw [HI.out.1];rfl)|(rw [HI.out.1];rw [HW5.out]),rfl⟩
   | zero =>
    rw [Nat.sub_zero];clear hm;go_wp2_with fail
    refine(d_digits (bs a) HSA.out true (by rw [bs_list];exact⟨fun _=>HG.out,fun _=>rfl⟩)).mono ?_;rintro e w1 ⟨rfl,hb1⟩;have HF1:=Lib.hid (show Fr _ _ w1 from HF0.out.go blr);have hz1:=HF1.out.1;obtain⟨_,_,_,-⟩:=HF1.out.alls 0 3;obtain⟨_,_,_,-⟩:=HF1.out.falls 0 3;go_wp2_with fail
    refine(d_readNat (P:=Gp P w.heap.size 1) (K:=75) (bs a) HDG.out HDA.out (by decide) (gap_fresh HP.out blr arq)).mono ?_;rintro e w2 ⟨A1,n1,c1,rfl,h1,hb2⟩;rw [bs_list]at h1;have H1:=Lib.hid h1;clear h1;have HF2:=Lib.hid (show Fr _ _ w2 from HF1.out.go blr);have hz2:=HF2.out.1;obtain⟨_,_,_,-⟩:=HF2.out.alls 0 3;obtain⟨_,_,_,-⟩:=HF2.out.falls 0 3;go_wp2_with fail
    refine(d_natOf (P:=Gp P w.heap.size 1) 1 (by decide) (by decide) (gap_fresh HP.out blr arq)).mono ?_;rintro e w3 ⟨A2,n2,c2,rfl,h2,hb3⟩;have H2:=Lib.hid h2;clear h2;have HF3:=Lib.hid (show Fr _ _ w3 from HF2.out.go blr);have hz3:=HF3.out.1;obtain⟨_,_,_,-⟩:=HF3.out.alls 0 3;obtain⟨_,_,_,-⟩:=HF3.out.falls 0 3;go_wp2_with fail
    refine(d_digits (bs b) HSB.out true (by rw [bs_list];exact⟨fun _=>HGB.out,fun _=>rfl⟩)).mono ?_;rintro e w4 ⟨rfl,hb4⟩;have HF4:=Lib.hid (show Fr _ _ w4 from HF3.out.go blr);have hz4:=HF4.out.1;obtain⟨_,_,_,-⟩:=HF4.out.alls 0 3;obtain⟨_,_,_,-⟩:=HF4.out.falls 0 3;go_wp2_with fail
    refine(d_readNat (P:=Gp P w.heap.size 1) (K:=75) (bs b) HDGB.out HDB.out (by decide) (gap_fresh HP.out blr arq)).mono ?_;rintro e w5 ⟨A3,n3,c3,rfl,h3,hb5⟩;rw [bs_list]at h3;have H3:=Lib.hid h3;clear h3;have HF5:=Lib.hid (show Fr _ _ w5 from HF4.out.go blr);have hz5:=HF5.out.1;obtain⟨_,_,_,-⟩:=HF5.out.alls 0 3;obtain⟨_,_,_,-⟩:=HF5.out.falls 0 3;go_wp2_with fail
    refine(d_natOf (P:=Gp P w.heap.size 1) 1 (by decide) (by decide) (gap_fresh HP.out blr arq)).mono ?_;rintro e w6 ⟨A4,n4,c4,rfl,h4,hb6⟩;have H4:=Lib.hid h4;clear h4;have HF6:=Lib.hid (show Fr _ _ w6 from HF5.out.go blr);have hz6:=HF6.out.1;obtain⟨_,_,_,-⟩:=HF6.out.alls 0 3;obtain⟨_,_,_,-⟩:=HF6.out.falls 0 3;go_wp2_with fail
    refine(d_cmpNat' (r:=r) (H3.out.below blr) (H4.out.below blr) (by decide) (by decide) HS.out).mono ?_;rintro e w7 ⟨rfl,hb7⟩;have HF7:=Lib.hid (show Fr _ _ w7 from HF6.out.go blr);have hz7:=HF7.out.1;obtain⟨q7_0,q7_1,q7_2,-⟩:=HF7.out.alls 0 3;obtain⟨_,_,_,-⟩:=HF7.out.falls 0 3;go_wp2_with fail
    refine bodyPost_ret (v:=.tuple #[.agg #[.bool false,.slice none 0 0,.slice none 0 0],.bool false]) (by simp [results,Tryz.results51,go_sem,q7_0,q7_1,q7_2]) rfl ⟨rfl,blr⟩)
theorem read_g1(hs:s.data.toList=sgl neg (a++47 :: b))(hn:neg=false→(a++47 :: b).head?≠some 45)(ha:(47:UInt8)∉a)(hz:s.size≤140737488351232){P:Nat→Prop}(hP:∀k,w.heap.size≤k→P k)(hg:Good a)(hgb:Good b)(hd:1<dval b)(hgc:Nat.gcd (dval a) (dval b)≠1) :
 Calls Tryz.prog 51 #[.string s] w fun e w'=>e=.returned (.tuple #[.agg #[.bool false,.slice none 0 0,.slice none 0 0],.bool false])∧Below w.heap.size w w':=by
 have HST:=Lib.hid (start_of hs hn)
 have hlen:(a++47 :: b).length≤140737488351232:=by
  have h1:s.data.toList.length=s.size:=by rw [Array.length_toList];rfl
  rw [hs]at h1;cases neg <;> simp [sgl]at h1 ⊢ <;> omega
 obtain⟨s1,h1⟩:∃s1,bs (a++47 :: b)=s1:=⟨_,rfl⟩
 have H47:=Lib.hid (fun i (hi:i<a.length)=>(⟨_,no47 ha i hi,by rw [←h1];exact bs_at _ i _ (by rw [List.getElem?_append_left hi,List.getElem?_eq_getElem hi])⟩:∃y:Int,(y==47)=false∧∀h,((s1[i]'h).toNat:Int)=y))
 have HS1:=Lib.hid (show a.length≤s1.size by rw [←h1,bs_size];simp)
 have E1:s1.extract 0 a.length=bs a:=by rw [←h1,bs_cut];simp
 have hend:a.length<s1.size:=by rw [←h1,bs_size];simp
 have hx47:∀h,((s1[a.length]'h).toNat:Int)=47:=by rw [←h1];exact bs_at _ a.length 47 (by rw [List.getElem?_append_right (Nat.le_refl _),Nat.sub_self];rfl)
 have E2:s1.extract (a.length+1) s1.size=bs b:=by rw [←h1,bs_cut,bs_size,show a++47 :: b=(a++ [47])++b by simp,List.drop_left' (by simp),List.take_of_length_le (by simp;omega)]
 have e9:=wrp (show wrap64 ((a.length:Int)+1)=((a.length+1:Nat):Int) by rw [w64 (by simp at hlen;omega) (by simp at hlen;omega)];omega)
 have HL1:=Lib.hid (show a.length+1≤s1.size from hend)
 rw [h1]at HST
 have HLEN:=Lib.hid (show s1.size≤140737488351232 by rw [←h1,bs_size];exact hlen)
 have hla:a.length≤140737488351232:=by simp at hlen;omega
 have HS:=Lib.hid (show((dval b:Int)-1).sign=1 from Int.sign_eq_one_of_pos (by omega))
 obtain⟨r,hr⟩:∃r,((Int.gcd (dval a:Int) (dval b:Int):Int)-1).sign=r:=⟨_,rfl⟩
 have hr1:(r==0)=false:=by
  rw [beq_eq_false_iff_ne,←hr];intro h;have h1:=Int.sign_eq_zero_iff_zero.1 h;have h2:Int.gcd (dval a:Int) (dval b:Int)=Nat.gcd (dval a) (dval b):=rfl;omega
 have HS2:=Lib.hid hr
 clear hr hd hgc
 have HP:=Lib.hid hP
 clear hP
 have HG:=Lib.hid hg
 have HDA:=Lib.hid (show(bs a).size≤4*75 by rw [bs_size];exact hg.2.2)
 have HDG:=Lib.hid (show Digs (bs a).data.toList by rw [bs_list];exact hg.1)
 clear hg
 have HGB:=Lib.hid hgb
 have HDB:=Lib.hid (show(bs b).size≤4*75 by rw [bs_size];exact hgb.2.2)
 have HDGB:=Lib.hid (show Digs (bs b).data.toList by rw [bs_list];exact hgb.1)
 clear hgb
 have HSA:=Lib.hid (show(bs a).size≤140737488351232 by rw [bs_size];exact hla)
 have HSB:=Lib.hid (show(bs b).size≤140737488351232 by rw [bs_size];simp at hlen;omega)
 clear hs hn ha hz hlen h1
 have HF0:=Lib.hid (show Fr [(w.heap.size,0,(.bool false)),(w.heap.size,1,(.slice none 0 0)),(w.heap.size,2,(.slice none 0 0))] (w.heap.size+1) (w.alloc (.cells #[.bool false,.slice none 0 0,.slice none 0 0] 60))from frq)
 go_enter Tryz.func51,Tryz.ntmps51
 rcases HST.out with ⟨rfl,h0,h2,h3⟩|⟨rfl,rfl,h0⟩|⟨rfl,rfl,h0,y,hy,h2⟩
 all_goals (
  go_wp2_with fail
  try clear h2
  try clear h3
  try clear hy
  clear h0;go_loopg [5] a.length (fun m v5 W=>RdR a.length (w.alloc (.cells #[.bool false,.slice none 0 0,.slice none 0 0] 60)) m v5 W)
  case atStart=>exact ⟨Nat.le_refl _,by rw [Nat.sub_self];rfl,rfl⟩
  case round =>
   obtain⟨hm,rfl,rfl⟩:=hrel;cases gk with
   | succ m =>
    obtain⟨i,hi⟩:∃i,i=a.length-(m+1):=⟨_,rfl⟩;rw [←hi];have hia:i<a.length:=by omega
    have HI:=Lib.hid (show a.length-m=i+1∧m≤a.length by omega);obtain⟨y5,hy5,hx5⟩:=H47.out i hia;have his:=Nat.lt_of_lt_of_le hia HS1.out;have HW5:=Lib.hid (show wrap64 ((i:Int)+1)=((i+1:Nat):Int) by rw [w64 (by omega) (by omega)];omega);have e5:=wrp HW5.out;clear hi hm;go_wp2_with fail
    go_roundg m
    case measure=>exact Nat.lt_succ_self _
    case rel=>exact ⟨HI.out.2,by first|rfl|(rw [HI.out.1];rfl)|(rw [HI.out.1];rw [HW5.out]),rfl⟩
   | zero =>
    rw [Nat.sub_zero];clear hm;go_wp2_with fail
    refine(d_digits (bs a) HSA.out true (by rw [bs_list];exact⟨fun _=>HG.out,fun _=>rfl⟩)).mono ?_;rintro e w1 ⟨rfl,hb1⟩;have HF1:=Lib.hid (show Fr _ _ w1 from HF0.out.go blr);have hz1:=HF1.out.1;obtain⟨_,_,_,-⟩:=HF1.out.alls 0 3;obtain⟨_,_,_,-⟩:=HF1.out.falls 0 3;go_wp2_with fail
    refine(d_readNat (P:=Gp P w.heap.size 1) (K:=75) (bs a) HDG.out HDA.out (by decide) (gap_fresh HP.out blr arq)).mono ?_;rintro e w2 ⟨A1,n1,c1,rfl,h1,hb2⟩;rw [bs_list]at h1;have H1:=Lib.hid h1;clear h1;have HF2:=Lib.hid (show Fr _ _ w2 from HF1.out.go blr);have hz2:=HF2.out.1;obtain⟨_,_,_,-⟩:=HF2.out.alls 0 3;obtain⟨_,_,_,-⟩:=HF2.out.falls 0 3;go_wp2_with fail
    refine(d_natOf (P:=Gp P w.heap.size 1) 1 (by decide) (by decide) (gap_fresh HP.out blr arq)).mono ?_;rintro e w3 ⟨A2,n2,c2,rfl,h2,hb3⟩;have H2:=Lib.hid h2;clear h2;have HF3:=Lib.hid (show Fr _ _ w3 from HF2.out.go blr);have hz3:=HF3.out.1;obtain⟨_,_,_,-⟩:=HF3.out.alls 0 3;obtain⟨_,_,_,-⟩:=HF3.out.falls 0 3;go_wp2_with fail
    refine(d_digits (bs b) HSB.out true (by rw [bs_list];exact⟨fun _=>HGB.out,fun _=>rfl⟩)).mono ?_;rintro e w4 ⟨rfl,hb4⟩;have HF4:=Lib.hid (show Fr _ _ w4 from HF3.out.go blr);have hz4:=HF4.out.1;obtain⟨_,_,_,-⟩:=HF4.out.alls 0 3;obtain⟨_,_,_,-⟩:=HF4.out.falls 0 3;go_wp2_with fail
    refine(d_readNat (P:=Gp P w.heap.size 1) (K:=75) (bs b) HDGB.out HDB.out (by decide) (gap_fresh HP.out blr arq)).mono ?_;rintro e w5 ⟨A3,n3,c3,rfl,h3,hb5⟩;rw [bs_list]at h3;have H3:=Lib.hid h3;clear h3;have HF5:=Lib.hid (show Fr _ _ w5 from HF4.out.go blr);have hz5:=HF5.out.1;obtain⟨_,_,_,-⟩:=HF5.out.alls 0 3;obtain⟨_,_,_,-⟩:=HF5.out.falls 0 3;go_wp2_with fail
    refine(d_natOf (P:=Gp P w.heap.size 1) 1 (by decide) (by decide) (gap_fresh HP.out blr arq)).mono ?_;rintro e w6 ⟨A4,n4,c4,rfl,h4,hb6⟩;have H4:=Lib.hid h4;clear h4;have HF6:=Lib.hid (show Fr _ _ w6 from HF5.out.go blr);have hz6:=HF6.out.1;obtain⟨_,_,_,-⟩:=HF6.out.alls 0 3;obtain⟨_,_,_,-⟩:=HF6.out.falls 0 3;go_wp2_with fail
    refine(d_cmpNat' (r:=1) (H3.out.below blr) (H4.out.below blr) (by decide) (by decide) HS.out).mono ?_;rintro e w7 ⟨rfl,hb7⟩;have HF7:=Lib.hid (show Fr _ _ w7 from HF6.out.go blr);have hz7:=HF7.out.1;obtain⟨_,_,_,-⟩:=HF7.out.alls 0 3;obtain⟨_,_,_,-⟩:=HF7.out.falls 0 3;go_wp2_with fail
    refine(d_gcdNat (P:=Gp P w.heap.size 1) (H1.out.below blr) (H3.out.below blr) (by decide) (gap_fresh HP.out blr arq)).mono ?_;rintro e w8 ⟨A5,n5,c5,rfl,h5,hb8⟩;have H5:=Lib.hid h5;clear h5;have HF8:=Lib.hid (show Fr _ _ w8 from HF7.out.go blr);have hz8:=HF8.out.1;obtain⟨_,_,_,-⟩:=HF8.out.alls 0 3;obtain⟨_,_,_,-⟩:=HF8.out.falls 0 3;go_wp2_with fail
    refine(d_natOf (P:=Gp P w.heap.size 1) 1 (by decide) (by decide) (gap_fresh HP.out blr arq)).mono ?_;rintro e w9 ⟨A6,n6,c6,rfl,h6,hb9⟩;have H6:=Lib.hid h6;clear h6;have HF9:=Lib.hid (show Fr _ _ w9 from HF8.out.go blr);have hz9:=HF9.out.1;obtain⟨_,_,_,-⟩:=HF9.out.alls 0 3;obtain⟨_,_,_,-⟩:=HF9.out.falls 0 3;go_wp2_with fail
    refine(d_cmpNat' (r:=r) (H5.out.below blr) (H6.out.below blr) (by decide) (by decide) HS2.out).mono ?_;rintro e w10 ⟨rfl,hb10⟩;have HF10:=Lib.hid (show Fr _ _ w10 from HF9.out.go blr);have hz10:=HF10.out.1;obtain⟨q10_0,q10_1,q10_2,-⟩:=HF10.out.alls 0 3;obtain⟨_,_,_,-⟩:=HF10.out.falls 0 3;go_wp2_with fail
    refine bodyPost_ret (v:=.tuple #[.agg #[.bool false,.slice none 0 0,.slice none 0 0],.bool false]) (by simp [results,Tryz.results51,go_sem,q10_0,q10_1,q10_2]) rfl ⟨rfl,blr⟩)
theorem read_y1(hs:s.data.toList=sgl neg (a++47 :: b))(hn:neg=false→(a++47 :: b).head?≠some 45)(ha:(47:UInt8)∉a)(hz:s.size≤140737488351232){P:Nat→Prop}(hP:∀k,w.heap.size≤k→P k){q:Rat}(hqn:q.num.natAbs=dval a)(hqd:q.den=dval b)(hqb:neg=decide (q.num<0))(hnz:neg=true→dval a≠0)(hg:Good a)(hgb:Good b)(hd:1<dval b)(hgc:Nat.gcd (dval a) (dval b)=1) :
 Calls Tryz.prog 51 #[.string s] w fun e w'=>∃r:QV,e=.returned (.tuple #[.agg #[.bool r.b,.slice r.nA r.nn r.nc,.slice r.dA r.dn r.dc],.bool true])∧IsQ P 75 w' r q∧Below w.heap.size w w':=by
 have HST:=Lib.hid (start_of hs hn)
 have hlen:(a++47 :: b).length≤140737488351232:=by
  have h1:s.data.toList.length=s.size:=by rw [Array.length_toList];rfl
  rw [hs]at h1;cases neg <;> simp [sgl]at h1 ⊢ <;> omega
 obtain⟨s1,h1⟩:∃s1,bs (a++47 :: b)=s1:=⟨_,rfl⟩
 have H47:=Lib.hid (fun i (hi:i<a.length)=>(⟨_,no47 ha i hi,by rw [←h1];exact bs_at _ i _ (by rw [List.getElem?_append_left hi,List.getElem?_eq_getElem hi])⟩:∃y:Int,(y==47)=false∧∀h,((s1[i]'h).toNat:Int)=y))
 have HS1:=Lib.hid (show a.length≤s1.size by rw [←h1,bs_size];simp)
 have E1:s1.extract 0 a.length=bs a:=by rw [←h1,bs_cut];simp
 have hend:a.length<s1.size:=by rw [←h1,bs_size];simp
 have hx47:∀h,((s1[a.length]'h).toNat:Int)=47:=by rw [←h1];exact bs_at _ a.length 47 (by rw [List.getElem?_append_right (Nat.le_refl _),Nat.sub_self];rfl)
 have E2:s1.extract (a.length+1) s1.size=bs b:=by rw [←h1,bs_cut,bs_size,show a++47 :: b=(a++ [47])++b by simp,List.drop_left' (by simp),List.take_of_length_le (by simp;omega)]
 have e9:=wrp (show wrap64 ((a.length:Int)+1)=((a.length+1:Nat):Int) by rw [w64 (by simp at hlen;omega) (by simp at hlen;omega)];omega)
 have HL1:=Lib.hid (show a.length+1≤s1.size from hend)
 rw [h1]at HST
 have HLEN:=Lib.hid (show s1.size≤140737488351232 by rw [←h1,bs_size];exact hlen)
 have hla:a.length≤140737488351232:=by simp at hlen;omega
 have HS:=Lib.hid (show((dval b:Int)-1).sign=1 from Int.sign_eq_one_of_pos (by omega))
 have HS2:=Lib.hid (show((Int.gcd (dval a:Int) (dval b:Int):Int)-1).sign=0 by rw [show Int.gcd (dval a:Int) (dval b:Int)=1 from hgc];rfl)
 clear hd hgc
 have HNZ:=Lib.hid hnz
 have HQ:=Lib.hid (show q.num.natAbs=dval a∧q.den=dval b∧neg=decide (q.num<0)from ⟨hqn,hqd,hqb⟩)
 clear hnz hqn hqd hqb
 have HP:=Lib.hid hP
 clear hP
 have HG:=Lib.hid hg
 have HDA:=Lib.hid (show(bs a).size≤4*75 by rw [bs_size];exact hg.2.2)
 have HDG:=Lib.hid (show Digs (bs a).data.toList by rw [bs_list];exact hg.1)
 clear hg
 have HGB:=Lib.hid hgb
 have HDB:=Lib.hid (show(bs b).size≤4*75 by rw [bs_size];exact hgb.2.2)
 have HDGB:=Lib.hid (show Digs (bs b).data.toList by rw [bs_list];exact hgb.1)
 clear hgb
 have HSA:=Lib.hid (show(bs a).size≤140737488351232 by rw [bs_size];exact hla)
 have HSB:=Lib.hid (show(bs b).size≤140737488351232 by rw [bs_size];simp at hlen;omega)
 clear hs hn ha hz hlen h1
 have HF0:=Lib.hid (show Fr [(w.heap.size,0,(.bool false)),(w.heap.size,1,(.slice none 0 0)),(w.heap.size,2,(.slice none 0 0))] (w.heap.size+1) (w.alloc (.cells #[.bool false,.slice none 0 0,.slice none 0 0] 60))from frq)
 go_enter Tryz.func51,Tryz.ntmps51
 rcases HST.out with ⟨rfl,h0,h2,h3⟩|⟨rfl,rfl,h0⟩|⟨rfl,rfl,h0,y,hy,h2⟩
 all_goals (
  go_wp2_with fail
  try clear h2
  try clear h3
  try clear hy
  clear h0;go_loopg [5] a.length (fun m v5 W=>RdR a.length (w.alloc (.cells #[.bool false,.slice none 0 0,.slice none 0 0] 60)) m v5 W)
  case atStart=>exact ⟨Nat.le_refl _,by rw [Nat.sub_self];rfl,rfl⟩
  case round =>
   obtain⟨hm,rfl,rfl⟩:=hrel;cases gk with
   | succ m =>
    obtain⟨i,hi⟩:∃i,i=a.length-(m+1):=⟨_,rfl⟩;rw [←hi];have hia:i<a.length:=by omega
    have HI:=Lib.hid (show a.length-m=i+1∧m≤a.length by omega);obtain⟨y5,hy5,hx5⟩:=H47.out i hia;have his:=Nat.lt_of_lt_of_le hia HS1.out;have HW5:=Lib.hid (show wrap64 ((i:Int)+1)=((i+1:Nat):Int) by rw [w64 (by omega) (by omega)];omega);have e5:=wrp HW5.out;clear hi hm;go_wp2_with fail
    go_roundg m
    case measure=>exact Nat.lt_succ_self _
    case rel=>exact ⟨HI.out.2,by first|rfl|(rw [HI.out.1];rfl)|(rw [HI.out.1];rw [HW5.out]),rfl⟩
   | zero =>
    rw [Nat.sub_zero];clear hm;go_wp2_with fail
    refine(d_digits (bs a) HSA.out true (by rw [bs_list];exact⟨fun _=>HG.out,fun _=>rfl⟩)).mono ?_;rintro e w1 ⟨rfl,hb1⟩;have HF1:=Lib.hid (show Fr _ _ w1 from HF0.out.go blr);have hz1:=HF1.out.1;obtain⟨_,_,_,-⟩:=HF1.out.alls 0 3;obtain⟨_,_,_,-⟩:=HF1.out.falls 0 3;go_wp2_with fail
    refine(d_readNat (P:=Gp P w.heap.size 1) (K:=75) (bs a) HDG.out HDA.out (by decide) (gap_fresh HP.out blr arq)).mono ?_;rintro e w2 ⟨A1,n1,c1,rfl,h1,hb2⟩;rw [bs_list]at h1;have H1:=Lib.hid h1;clear h1;have HF2:=Lib.hid (show Fr _ _ w2 from HF1.out.go blr);have hz2:=HF2.out.1;obtain⟨_,_,_,-⟩:=HF2.out.alls 0 3;obtain⟨_,_,_,-⟩:=HF2.out.falls 0 3;have hn0:=fun h=>nz_of H1.out (HNZ.out h)
    go_wp2_with fail
    refine(d_natOf (P:=Gp P w.heap.size 1) 1 (by decide) (by decide) (gap_fresh HP.out blr arq)).mono ?_;rintro e w3 ⟨A2,n2,c2,rfl,h2,hb3⟩;have H2:=Lib.hid h2;clear h2;have HF3:=Lib.hid (show Fr _ _ w3 from HF2.out.go blr);have hz3:=HF3.out.1;obtain⟨_,_,_,-⟩:=HF3.out.alls 0 3;obtain⟨_,_,_,-⟩:=HF3.out.falls 0 3;go_wp2_with fail
    refine(d_digits (bs b) HSB.out true (by rw [bs_list];exact⟨fun _=>HGB.out,fun _=>rfl⟩)).mono ?_;rintro e w4 ⟨rfl,hb4⟩;have HF4:=Lib.hid (show Fr _ _ w4 from HF3.out.go blr);have hz4:=HF4.out.1;obtain⟨_,_,_,-⟩:=HF4.out.alls 0 3;obtain⟨_,_,_,-⟩:=HF4.out.falls 0 3;go_wp2_with fail
    refine(d_readNat (P:=Gp P w.heap.size 1) (K:=75) (bs b) HDGB.out HDB.out (by decide) (gap_fresh HP.out blr arq)).mono ?_;rintro e w5 ⟨A3,n3,c3,rfl,h3,hb5⟩;rw [bs_list]at h3;have H3:=Lib.hid h3;clear h3;have HF5:=Lib.hid (show Fr _ _ w5 from HF4.out.go blr);have hz5:=HF5.out.1;obtain⟨_,_,_,-⟩:=HF5.out.alls 0 3;obtain⟨_,_,_,-⟩:=HF5.out.falls 0 3;have hdb:dval b<10000^75:=by have:=H3.out.bd;simpa using this
    go_wp2_with fail
    refine(d_natOf (P:=Gp P w.heap.size 1) 1 (by decide) (by decide) (gap_fresh HP.out blr arq)).mono ?_;rintro e w6 ⟨A4,n4,c4,rfl,h4,hb6⟩;have H4:=Lib.hid h4;clear h4;have HF6:=Lib.hid (show Fr _ _ w6 from HF5.out.go blr);have hz6:=HF6.out.1;obtain⟨_,_,_,-⟩:=HF6.out.alls 0 3;obtain⟨_,_,_,-⟩:=HF6.out.falls 0 3;go_wp2_with fail
    refine(d_cmpNat' (r:=1) (H3.out.below blr) (H4.out.below blr) (by decide) (by decide) HS.out).mono ?_;rintro e w7 ⟨rfl,hb7⟩;have HF7:=Lib.hid (show Fr _ _ w7 from HF6.out.go blr);have hz7:=HF7.out.1;obtain⟨_,_,_,-⟩:=HF7.out.alls 0 3;obtain⟨_,_,_,-⟩:=HF7.out.falls 0 3;go_wp2_with fail
    refine(d_gcdNat (P:=Gp P w.heap.size 1) (H1.out.below blr) (H3.out.below blr) (by decide) (gap_fresh HP.out blr arq)).mono ?_;rintro e w8 ⟨A5,n5,c5,rfl,h5,hb8⟩;have H5:=Lib.hid h5;clear h5;have HF8:=Lib.hid (show Fr _ _ w8 from HF7.out.go blr);have hz8:=HF8.out.1;obtain⟨_,_,_,-⟩:=HF8.out.alls 0 3;obtain⟨_,_,_,-⟩:=HF8.out.falls 0 3;go_wp2_with fail
    refine(d_natOf (P:=Gp P w.heap.size 1) 1 (by decide) (by decide) (gap_fresh HP.out blr arq)).mono ?_;rintro e w9 ⟨A6,n6,c6,rfl,h6,hb9⟩;have H6:=Lib.hid h6;clear h6;have HF9:=Lib.hid (show Fr _ _ w9 from HF8.out.go blr);have hz9:=HF9.out.1;obtain⟨_,_,_,-⟩:=HF9.out.alls 0 3;obtain⟨_,_,_,-⟩:=HF9.out.falls 0 3;go_wp2_with fail
    refine(d_cmpNat' (r:=0) (H5.out.below blr) (H6.out.below blr) (by decide) (by decide) HS2.out).mono ?_;rintro e w10 ⟨rfl,hb10⟩;have HF10:=Lib.hid (show Fr _ _ w10 from HF9.out.go blr);have hz10:=HF10.out.1;obtain⟨q10_0,q10_1,q10_2,-⟩:=HF10.out.alls 0 3;obtain⟨_,_,_,-⟩:=HF10.out.falls 0 3;go_wp2_with fail
    first|(refine bodyPost_ret (v:=.tuple #[.agg #[.bool true,.slice A1 n1 c1,.slice A3 n3 c3],.bool true]) (by simp [results,Tryz.results51,go_sem,q10_0,q10_1,q10_2]) rfl ⟨⟨true,A1,n1,c1,A3,n3,c3⟩,rfl,IsQ.ungap (s:=w.heap.size) (n:=1) ?_,blr⟩;exact((((isq_read (H1.out.below blr) (H3.out.below blr) HQ.out).put _ arq arq).put _ arq arq).put _ arq arq))|(refine bodyPost_ret (v:=.tuple #[.agg #[.bool false,.slice A1 n1 c1,.slice A3 n3 c3],.bool true]) (by simp [results,Tryz.results51,go_sem,q10_0,q10_1,q10_2]) rfl ⟨⟨false,A1,n1,c1,A3,n3,c3⟩,rfl,IsQ.ungap (s:=w.heap.size) (n:=1) ?_,blr⟩;exact((((isq_read (H1.out.below blr) (H3.out.below blr) HQ.out).put _ arq arq).put _ arq arq).put _ arq arq))|fail)
end
end Go.Proofs.YtpdghgfbfmaplaaGreatDoor.Rf
end
