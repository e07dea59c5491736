/- Lemmas for RatLists. -/
import Derived.Test.YtpdghgfbfmaplaaGreatDoorZRefN
import Derived.Test.YtpdghgfbfmaplaaGreatDoorZRatH
import Derived.Test.YtpdghgfbfmaplaaGreatDoorZRatV
set_option maxRecDepth 100000
set_option maxHeartbeats 8000000
section
set_option linter.unusedVariables false
set_option linter.unusedSimpArgs false
namespace Go.Proofs.YtpdghgfbfmaplaaGreatDoor.Rf
open Go.RowKit Go.Proofs.YtpdghgfbfmaplaaGreatDoorW.PrintWords Go.Proofs.YtpdghgfbfmaplaaGreatDoor.Num Go.Proofs.YtpdghgfbfmaplaaGreatDoor.Dec Go.Proofs.YtpdghgfbfmaplaaGreatDoor.Wh
section
variable {w:World}
def tot:List ByteArray→Nat
 | []=>0
 | s :: l=>4+s.size+tot l
theorem tot_snoc:∀(l:List ByteArray) (s:ByteArray),tot (l++ [s])=tot l+(4+s.size)
 | [],s=>by simp [tot]
 | t :: l,s=>by simp only [List.cons_append,tot,tot_snoc l s];omega
theorem tot_app:∀(l m:List ByteArray),tot (l++m)=tot l+tot m
 | [],m=>by simp [tot]
 | t :: l,m=>by simp only [List.cons_append,tot,tot_app l m];omega
theorem tot_len:∀(l:List ByteArray),4*l.length≤tot l
 | []=>by simp [tot]
 | t :: l=>by have:=tot_len l;simp only [List.length_cons,tot];omega
theorem tot_mem:∀(l:List ByteArray),∀s∈l,s.size≤tot l
 | [],s,h=>by cases h
 | t :: l,s,h=>by
  rcases List.mem_cons.1 h with rfl|h
  · simp only [tot];omega
  · have:=tot_mem l s h;simp only [tot];omega
theorem str_at{W:World}{ad:Addr}{l:List ByteArray}{k:Nat}{s:ByteArray}(h:Kd.string.C W (some ad) l.length l)(hk:l[k]?=some s):W.cell? (ad.add k)=some (.string s):=by
 have hlt:k<l.length:=(List.getElem?_eq_some_iff.1 hk).1
 have h1:=Kd.foot_string h (k:Int) (by omega) (by omega)
 rw [Int.toNat_natCast]at h1
 rw [h1]
 have h2:rdOf ByteArray.empty l (k:Int)=s:=by simp [rdOf,hk]
 rw [h2]
theorem c_long(l:List ByteArray){A:Option Addr}{c:Nat}(hA:Kd.string.C w A l.length l)(hT:tot l≤1000000000000) :
 Calls Tryz.prog 30 #[.slice A l.length c] w fun e w'=>e=.returned (.bool (decide (1200<tot l)))∧Below w.heap.size w w':=by
 have HC:=Lib.hid hA
 have HT:=Lib.hid hT
 clear hA hT
 go_enter Tryz.func30,Tryz.ntmps30
 go_wp2_with fail
 go_loopw [3,4] (fun v3 v4 W=>∃k:Nat,v4=.int .i64 k∧v3=.int .i64 (tot (l.take k):Nat)∧k≤l.length∧Below w.heap.size w W) (fun _ v4 _=>l.length-(intOf v4).toNat)
 case atStart=>exact ⟨0,rfl,rfl,Nat.zero_le _,Below.refl _ _⟩
 case round =>
  obtain⟨k,rfl,rfl,hk,hb⟩:=hrel;obtain⟨wo,rfl⟩:∃wo:World,wo=wr:=⟨_,rfl⟩;have HBR:=Lib.hid hb;clear hb;have hll:4*l.length≤1000000000000:=Nat.le_trans (tot_len l) HT.out;by_cases hlt:k<l.length
  · obtain⟨s,hs⟩:∃s,l[k]?=some s:=⟨l[k]'hlt,List.getElem?_eq_getElem _⟩;obtain⟨ad,rfl⟩:∃ad,A=some ad:=by obtain⟨ad,h,_⟩:=Kd.at_string HC.out (k:Int) (by omega) (by omega);exact⟨ad,h⟩
    have htk:l.take (k+1)=l.take k++ [s]:=by rw [List.take_add_one,hs];rfl
    have hsum:tot (l.take k)+(4+s.size)≤1000000000000:=by
     rw [←tot_snoc,←htk];have h1:=tot_app (l.take (k+1)) (l.drop (k+1));rw [List.take_append_drop]at h1;have:=HT.out;omega
    have HTK:=Lib.hid (show tot (l.take (k+1))=tot (l.take k)+(4+s.size) by rw [htk,tot_snoc]);obtain⟨T,hTT⟩:∃T,tot (l.take k)=T:=⟨_,rfl⟩;have HTT:=Lib.hid hTT;rw [hTT]at hsum ⊢;have hcell:=str_at (Kd.C_below HC.out HBR.out) hs;have hlt':(k:Int)<(l.length:Int):=by omega
    have hk0:(0:Int)≤(k:Int):=by omega
    clear hs htk hTT;go_wp2_with fail
    go_roundw
    case rel=>refine ⟨k+1,by go_num,?_,hlt,HBR.out⟩;rw [HTK.out,HTT.out];go_num
    case measure=>simp [intOf];omega
  · obtain rfl:k=l.length:=by omega
    rw [List.take_length];obtain⟨T,hTT⟩:∃T,tot l=T:=⟨_,rfl⟩;have hT9:T≤1000000000000:=by rw [←hTT];exact HT.out
    rw [hTT];go_wp2_with fail
    go_ret
    exact⟨by congr 2;simp;omega,have hb0:=HBR.out;blq⟩
end
theorem lists_1{w:World}(l m:List ByteArray){A A':Option Addr}{c c':Nat}(hA:Kd.string.C w A l.length l)(hA':Kd.string.C w A' m.length m)(hT:tot l≤1000000000000)(hT':tot m≤1000000000000)(h1:1200<tot l):Calls Tryz.prog 7 #[.slice A l.length c,.slice A' m.length c'] w fun e w'=>e=.returned (.bool true)∧Below w.heap.size w w':=by
 have H1:=Lib.hid (fun(W:World) (hb:Below w.heap.size w W)=>(show Calls Tryz.prog 30 #[.slice A l.length c] W (fun e w'=>e=.returned (.bool true)∧Below W.heap.size W w')from by have h9:=c_long (w:=W) (c:=c) l (Kd.C_below hA hb) hT;rw [show decide (1200<tot l)=true from decide_eq_true h1]at h9;exact h9))
 clear hA hA' hT hT' h1
 go_enter Tryz.func7,Tryz.ntmps7
 go_wp2_with fail
 refine(H1.out _ (Below.refl _ _)).mono ?_
 rintro e w1 ⟨rfl,hb1⟩
 go_wp2_with fail
 refine(c_alive).mono ?_
 rintro e w2 ⟨rfl,hb2⟩
 go_wp2_with fail
 go_ret
 exact⟨rfl,blq⟩
theorem lists_2{w:World}(l m:List ByteArray){A A':Option Addr}{c c':Nat}(hA:Kd.string.C w A l.length l)(hA':Kd.string.C w A' m.length m)(hT:tot l≤1000000000000)(hT':tot m≤1000000000000)(h1:¬1200<tot l)(h2:1200<tot m):Calls Tryz.prog 7 #[.slice A l.length c,.slice A' m.length c'] w fun e w'=>e=.returned (.bool true)∧Below w.heap.size w w':=by
 have H1:=Lib.hid (fun(W:World) (hb:Below w.heap.size w W)=>(show Calls Tryz.prog 30 #[.slice A l.length c] W (fun e w'=>e=.returned (.bool false)∧Below W.heap.size W w')from by have h9:=c_long (w:=W) (c:=c) l (Kd.C_below hA hb) hT;rw [show decide (1200<tot l)=false from decide_eq_false h1]at h9;exact h9))
 have H2:=Lib.hid (fun(W:World) (hb:Below w.heap.size w W)=>(show Calls Tryz.prog 30 #[.slice A' m.length c'] W (fun e w'=>e=.returned (.bool true)∧Below W.heap.size W w')from by have h9:=c_long (w:=W) (c:=c') m (Kd.C_below hA' hb) hT';rw [show decide (1200<tot m)=true from decide_eq_true h2]at h9;exact h9))
 clear hA hA' hT hT' h1 h2
 go_enter Tryz.func7,Tryz.ntmps7
 go_wp2_with fail
 refine(H1.out _ (Below.refl _ _)).mono ?_
 rintro e w1 ⟨rfl,hb1⟩
 go_wp2_with fail
 refine(H2.out _ blq).mono ?_
 rintro e w2 ⟨rfl,hb2⟩
 go_wp2_with fail
 refine(c_alive).mono ?_
 rintro e w3 ⟨rfl,hb3⟩
 go_wp2_with fail
 go_ret
 exact⟨rfl,blq⟩
theorem lists_3{w:World}(l m:List ByteArray){A A':Option Addr}{c c':Nat}(hA:Kd.string.C w A l.length l)(hA':Kd.string.C w A' m.length m)(hT:tot l≤1000000000000)(hT':tot m≤1000000000000)(h1:¬1200<tot l)(h2:¬1200<tot m):Calls Tryz.prog 7 #[.slice A l.length c,.slice A' m.length c'] w fun e w'=>e=.returned (.bool true)∧Below w.heap.size w w':=by
 have H1:=Lib.hid (fun(W:World) (hb:Below w.heap.size w W)=>(show Calls Tryz.prog 30 #[.slice A l.length c] W (fun e w'=>e=.returned (.bool false)∧Below W.heap.size W w')from by have h9:=c_long (w:=W) (c:=c) l (Kd.C_below hA hb) hT;rw [show decide (1200<tot l)=false from decide_eq_false h1]at h9;exact h9))
 have H2:=Lib.hid (fun(W:World) (hb:Below w.heap.size w W)=>(show Calls Tryz.prog 30 #[.slice A' m.length c'] W (fun e w'=>e=.returned (.bool false)∧Below W.heap.size W w')from by have h9:=c_long (w:=W) (c:=c') m (Kd.C_below hA' hb) hT';rw [show decide (1200<tot m)=false from decide_eq_false h2]at h9;exact h9))
 have hl:l.length≤300:=by have:=tot_len l;omega
 have hm:m.length≤300:=by have:=tot_len m;omega
 have hsl:∀s∈l,s.size≤140737488351232:=fun s hs=>by have:=tot_mem l s hs;omega
 have hsm:∀s∈m,s.size≤140737488351232:=fun s hs=>by have:=tot_mem m s hs;omega
 have K0:=Lib.hid (fun(W:World) (hb:Below w.heap.size w W)=>c_rTotal (w:=W) (c:=c) l (Kd.C_below hA hb) hl hsl)
 have G0:=Lib.hid (fun(W:World) (hb:Below w.heap.size w W)=>q_rTotal (w:=W) (c:=c) l (Kd.C_below hA hb) hl hsl)
 have K1:=Lib.hid (fun(W:World) (hb:Below w.heap.size w W)=>c_rDot (w:=W) (c:=c) (c':=c') l (Kd.C_below hA hb) hl hsl m (Kd.C_below hA' hb) hm hsm)
 have G1:=Lib.hid (fun(W:World) (hb:Below w.heap.size w W)=>q_rDot (w:=W) (c:=c) (c':=c') l (Kd.C_below hA hb) hl hsl m (Kd.C_below hA' hb) hm hsm)
 have K2:=Lib.hid (fun(W:World) (hb:Below w.heap.size w W)=>c_rCommon (w:=W) (c:=c) l (Kd.C_below hA hb) (by omega) hsl)
 have G2:=Lib.hid (fun(W:World) (hb:Below w.heap.size w W)=>q_rCommon (w:=W) (c:=c) l (Kd.C_below hA hb) hl hsl)
 clear hA hA' hT hT' h1 h2 hl hm hsl hsm
 obtain⟨s0,k0,hr⟩:∃s k,rTotal l=(s,k):=⟨_,_,rfl⟩
 rw [hr]at K0 G0
 clear hr
 obtain⟨s1,k1,hr⟩:∃s k,rDot l m=(s,k):=⟨_,_,rfl⟩
 rw [hr]at K1 G1
 clear hr
 obtain⟨s2,k2,hr⟩:∃s k,rCommon l=(s,k):=⟨_,_,rfl⟩
 rw [hr]at K2 G2
 clear hr
 go_enter Tryz.func7,Tryz.ntmps7
 go_wp2_with fail
 refine(H1.out _ (Below.refl _ _)).mono ?_
 rintro e w1 ⟨rfl,hb1⟩
 go_wp2_with fail
 refine(H2.out _ blq).mono ?_
 rintro e w2 ⟨rfl,hb2⟩
 go_wp2_with fail
 refine(K0.out _ blq).mono ?_
 rintro e w3 ⟨rfl,hb3⟩
 go_wp2_with fail
 refine(G0.out _ blq).mono ?_
 rintro e w4 ⟨rfl,hb4⟩
 go_wp2_with fail
 refine(K1.out _ blq).mono ?_
 rintro e w5 ⟨rfl,hb5⟩
 go_wp2_with fail
 refine(G1.out _ blq).mono ?_
 rintro e w6 ⟨rfl,hb6⟩
 go_wp2_with fail
 refine(K2.out _ blq).mono ?_
 rintro e w7 ⟨rfl,hb7⟩
 go_wp2_with fail
 refine(G2.out _ blq).mono ?_
 rintro e w8 ⟨rfl,hb8⟩
 go_wp2_with fail
 refine(c_alive).mono ?_
 rintro e w9 ⟨rfl,hb9⟩
 go_wp2_with fail
 go_ret
 exact⟨rfl,blq⟩
theorem c_RatLists{w:World}(l m:List ByteArray){A A':Option Addr}{c c':Nat}(hA:Kd.string.C w A l.length l)(hA':Kd.string.C w A' m.length m)(hT:tot l≤1000000000000)(hT':tot m≤1000000000000):Calls Tryz.prog 7 #[.slice A l.length c,.slice A' m.length c'] w fun e w'=>e=.returned (.bool true)∧Below w.heap.size w w':=by
 by_cases h1:1200<tot l
 · exact lists_1 l m hA hA' hT hT' h1
 · by_cases h2:1200<tot m
   · exact lists_2 l m hA hA' hT hT' h1 h2
   · exact lists_3 l m hA hA' hT hT' h1 h2
end Go.Proofs.YtpdghgfbfmaplaaGreatDoor.Rf
end
