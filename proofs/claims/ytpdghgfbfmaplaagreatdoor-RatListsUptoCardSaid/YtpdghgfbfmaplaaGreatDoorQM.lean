/- Lemmas for RatLists. -/
import Derived.Shelf.Strings.Trim
import Derived.Shelf.Strings.SlTrimAscii
import Derived.Shelf.Strings.Search2
import Derived.Shelf.Small.Wraps
import Derived.Ground.NamesProg
import Derived.Lib.CutLaws
import Derived.Lib.IndexLaws
import Derived.WalkSmall
import Derived.RangeFuncBox
import Derived.RangeFuncNested
import Derived.RangeFuncLeaves
import Derived.RangeFuncCalls
import Derived.Shelf.Abstract
import Derived.OwnWalkIn
import Derived.TacticsInMore
import Derived.LoopNIn
import Derived.LoopIn
import Derived.Test.YtpdghgfbfmaplaaGreatDoorZDiv0
import Derived.Laws.NewBlocks
import Derived.OrdersIn
set_option maxRecDepth 100000
set_option maxHeartbeats 8000000
section
namespace Go.Proofs
open Go.Shelf
def Tryz.lays161_ren:Go.Shelf.Ren:=⟨fun|161=>107|231=>124|227=>125|233=>126|235=>127|228=>142|197=>143|151=>144|260=>151|152=>152|137=>156|119=>157|224=>147|225=>146|217=>145|266=>153|n=>n,fun|9=>9|4=>4|3=>3|5=>5|117=>123|116=>122|0=>0|124=>126|105=>136|21=>21|119=>144|46=>94|139=>147|138=>146|n=>n,fun|3=>1|4=>2|n=>n⟩
theorem Tryz.lays161:Go.Proofs.Lays.n161 Tryz.prog Tryz.lays161_ren:= {
 mixed:=by kernel_rfl
 f119:=Tryz.func157.trans (congrArg some (by kernel_rfl))
 f137:=Tryz.func156.trans (congrArg some (by kernel_rfl))
 f151:=Tryz.func144.trans (congrArg some (by kernel_rfl))
 f152:=Tryz.func152.trans (congrArg some (by kernel_rfl))
 f161:=Tryz.func107.trans (congrArg some (by kernel_rfl))
 f197:=Tryz.func143.trans (congrArg some (by kernel_rfl))
 f217:=Tryz.func145.trans (congrArg some (by kernel_rfl))
 f224:=Tryz.func147.trans (congrArg some (by kernel_rfl))
 f225:=Tryz.func146.trans (congrArg some (by kernel_rfl))
 f227:=Tryz.func125.trans (congrArg some (by kernel_rfl))
 f228:=Tryz.func142.trans (congrArg some (by kernel_rfl))
 f231:=Tryz.func124.trans (congrArg some (by kernel_rfl))
 f233:=Tryz.func126.trans (congrArg some (by kernel_rfl))
 f235:=Tryz.func127.trans (congrArg some (by kernel_rfl))
 f260:=Tryz.func151.trans (congrArg some (by kernel_rfl))
 f266:=Tryz.func153.trans (congrArg some (by kernel_rfl))
 t0:=Tryz.underlying0
 a0:=Tryz.isAgg0
 z0:=Tryz.sizeOf0
 v0:=Tryz.zeroValue0
 t3:=Tryz.underlying3
 a3:=Tryz.isAgg3
 z3:=Tryz.sizeOf3
 v3:=Tryz.zeroValue3
 t4:=Tryz.underlying4
 a4:=Tryz.isAgg4
 z4:=Tryz.sizeOf4
 v4:=Tryz.zeroValue4
 t5:=Tryz.underlying5
 a5:=Tryz.isAgg5
 z5:=Tryz.sizeOf5
 v5:=Tryz.zeroValue5
 t9:=Tryz.underlying9
 a9:=Tryz.isAgg9
 z9:=Tryz.sizeOf9
 v9:=Tryz.zeroValue9
 t21:=Tryz.underlying21
 a21:=Tryz.isAgg21
 z21:=Tryz.sizeOf21
 v21:=Tryz.zeroValue21
 t46:=Tryz.underlying94
 a46:=Tryz.isAgg94
 z46:=Tryz.sizeOf94
 v46:=Tryz.zeroValue94
 t105:=Tryz.underlying136
 a105:=Tryz.isAgg136
 z105:=Tryz.sizeOf136
 v105:=Tryz.zeroValue136
 t116:=Tryz.underlying122
 a116:=Tryz.isAgg122
 z116:=Tryz.sizeOf122
 t117:=Tryz.underlying123
 a117:=Tryz.isAgg123
 z117:=Tryz.sizeOf123
 v117:=Tryz.zeroValue123
 t119:=Tryz.underlying144
 a119:=Tryz.isAgg144
 z119:=Tryz.sizeOf144
 t124:=Tryz.underlying126
 a124:=Tryz.isAgg126
 z124:=Tryz.sizeOf126
 v124:=Tryz.zeroValue126
 t138:=Tryz.underlying146
 a138:=Tryz.isAgg146
 z138:=Tryz.sizeOf146
 v138:=Tryz.zeroValue146
 t139:=Tryz.underlying147
 a139:=Tryz.isAgg147
 z139:=Tryz.sizeOf147
 v139:=Tryz.zeroValue147
 g3:=by kernel_rfl
 g4:=by kernel_rfl }
def Tryz.lays160_ren:Go.Shelf.Ren:=⟨fun|160=>122|232=>139|231=>124|227=>125|234=>140|233=>126|236=>141|235=>127|228=>142|271=>150|151=>144|197=>143|120=>155|152=>152|260=>151|137=>156|119=>157|224=>147|225=>146|217=>145|266=>153|n=>n,fun|9=>9|4=>4|3=>3|5=>5|117=>123|116=>122|0=>0|124=>126|21=>21|105=>136|46=>94|119=>144|139=>147|138=>146|n=>n,fun|3=>1|4=>2|n=>n⟩
theorem Tryz.lays160:Go.Proofs.Lays.n160 Tryz.prog Tryz.lays160_ren:= {
 mixed:=by kernel_rfl
 f119:=Tryz.func157.trans (congrArg some (by kernel_rfl))
 f120:=Tryz.func155.trans (congrArg some (by kernel_rfl))
 f137:=Tryz.func156.trans (congrArg some (by kernel_rfl))
 f151:=Tryz.func144.trans (congrArg some (by kernel_rfl))
 f152:=Tryz.func152.trans (congrArg some (by kernel_rfl))
 f160:=Tryz.func122.trans (congrArg some (by kernel_rfl))
 f197:=Tryz.func143.trans (congrArg some (by kernel_rfl))
 f217:=Tryz.func145.trans (congrArg some (by kernel_rfl))
 f224:=Tryz.func147.trans (congrArg some (by kernel_rfl))
 f225:=Tryz.func146.trans (congrArg some (by kernel_rfl))
 f227:=Tryz.func125.trans (congrArg some (by kernel_rfl))
 f228:=Tryz.func142.trans (congrArg some (by kernel_rfl))
 f231:=Tryz.func124.trans (congrArg some (by kernel_rfl))
 f232:=Tryz.func139.trans (congrArg some (by kernel_rfl))
 f233:=Tryz.func126.trans (congrArg some (by kernel_rfl))
 f234:=Tryz.func140.trans (congrArg some (by kernel_rfl))
 f235:=Tryz.func127.trans (congrArg some (by kernel_rfl))
 f236:=Tryz.func141.trans (congrArg some (by kernel_rfl))
 f260:=Tryz.func151.trans (congrArg some (by kernel_rfl))
 f266:=Tryz.func153.trans (congrArg some (by kernel_rfl))
 f271:=Tryz.func150.trans (congrArg some (by kernel_rfl))
 t0:=Tryz.underlying0
 a0:=Tryz.isAgg0
 z0:=Tryz.sizeOf0
 v0:=Tryz.zeroValue0
 t3:=Tryz.underlying3
 a3:=Tryz.isAgg3
 z3:=Tryz.sizeOf3
 v3:=Tryz.zeroValue3
 t4:=Tryz.underlying4
 a4:=Tryz.isAgg4
 z4:=Tryz.sizeOf4
 v4:=Tryz.zeroValue4
 t5:=Tryz.underlying5
 a5:=Tryz.isAgg5
 z5:=Tryz.sizeOf5
 v5:=Tryz.zeroValue5
 t9:=Tryz.underlying9
 a9:=Tryz.isAgg9
 z9:=Tryz.sizeOf9
 v9:=Tryz.zeroValue9
 t21:=Tryz.underlying21
 a21:=Tryz.isAgg21
 z21:=Tryz.sizeOf21
 v21:=Tryz.zeroValue21
 t46:=Tryz.underlying94
 a46:=Tryz.isAgg94
 z46:=Tryz.sizeOf94
 v46:=Tryz.zeroValue94
 t105:=Tryz.underlying136
 a105:=Tryz.isAgg136
 z105:=Tryz.sizeOf136
 v105:=Tryz.zeroValue136
 t116:=Tryz.underlying122
 a116:=Tryz.isAgg122
 z116:=Tryz.sizeOf122
 t117:=Tryz.underlying123
 a117:=Tryz.isAgg123
 z117:=Tryz.sizeOf123
 v117:=Tryz.zeroValue123
 t119:=Tryz.underlying144
 a119:=Tryz.isAgg144
 z119:=Tryz.sizeOf144
 t124:=Tryz.underlying126
 a124:=Tryz.isAgg126
 z124:=Tryz.sizeOf126
 v124:=Tryz.zeroValue126
 t138:=Tryz.underlying146
 a138:=Tryz.isAgg146
 z138:=Tryz.sizeOf146
 v138:=Tryz.zeroValue146
 t139:=Tryz.underlying147
 a139:=Tryz.isAgg147
 z139:=Tryz.sizeOf147
 v139:=Tryz.zeroValue147
 g3:=by kernel_rfl
 g4:=by kernel_rfl }
def Tryz.lays219_ren:Go.Shelf.Ren:=⟨fun|219=>137|217=>145|225=>146|224=>147|267=>148|266=>153|314=>154|n=>n,fun|9=>9|3=>3|4=>4|5=>5|46=>94|146=>142|51=>95|n=>n,fun|1=>0|n=>n⟩
theorem Tryz.lays219:Go.Proofs.Lays.n219 Tryz.prog Tryz.lays219_ren:= {
 mixed:=by kernel_rfl
 f217:=Tryz.func145.trans (congrArg some (by kernel_rfl))
 f219:=Tryz.func137.trans (congrArg some (by kernel_rfl))
 f224:=Tryz.func147.trans (congrArg some (by kernel_rfl))
 f225:=Tryz.func146.trans (congrArg some (by kernel_rfl))
 f266:=Tryz.func153.trans (congrArg some (by kernel_rfl))
 f267:=Tryz.func148.trans (congrArg some (by kernel_rfl))
 f314:=Tryz.func154.trans (congrArg some (by kernel_rfl))
 t3:=Tryz.underlying3
 a3:=Tryz.isAgg3
 z3:=Tryz.sizeOf3
 v3:=Tryz.zeroValue3
 t4:=Tryz.underlying4
 a4:=Tryz.isAgg4
 z4:=Tryz.sizeOf4
 v4:=Tryz.zeroValue4
 t5:=Tryz.underlying5
 a5:=Tryz.isAgg5
 z5:=Tryz.sizeOf5
 v5:=Tryz.zeroValue5
 t9:=Tryz.underlying9
 a9:=Tryz.isAgg9
 z9:=Tryz.sizeOf9
 v9:=Tryz.zeroValue9
 t46:=Tryz.underlying94
 a46:=Tryz.isAgg94
 z46:=Tryz.sizeOf94
 v46:=Tryz.zeroValue94
 t51:=Tryz.underlying95
 a51:=Tryz.isAgg95
 z51:=Tryz.sizeOf95
 v51:=Tryz.zeroValue95
 t146:=Tryz.underlying142
 a146:=Tryz.isAgg142
 z146:=Tryz.sizeOf142
 v146:=Tryz.zeroValue142
 g1:=by kernel_rfl }
def Tryz.lays103_ren:Go.Shelf.Ren:=⟨fun|103=>121|210=>138|206=>149|n=>n,fun|9=>9|4=>4|24=>117|3=>3|n=>n,fun|n=>n⟩
theorem Tryz.lays103:Go.Proofs.Lays.n103 Tryz.prog Tryz.lays103_ren:= {
 mixed:=by kernel_rfl
 f103:=Tryz.func121.trans (congrArg some (by kernel_rfl))
 f206:=Tryz.func149.trans (congrArg some (by kernel_rfl))
 f210:=Tryz.func138.trans (congrArg some (by kernel_rfl))
 t3:=Tryz.underlying3
 a3:=Tryz.isAgg3
 z3:=Tryz.sizeOf3
 v3:=Tryz.zeroValue3
 t4:=Tryz.underlying4
 a4:=Tryz.isAgg4
 z4:=Tryz.sizeOf4
 v4:=Tryz.zeroValue4
 t9:=Tryz.underlying9
 a9:=Tryz.isAgg9
 z9:=Tryz.sizeOf9
 v9:=Tryz.zeroValue9
 t24:=Tryz.underlying117
 a24:=Tryz.isAgg117
 z24:=Tryz.sizeOf117
 v24:=Tryz.zeroValue117 }
end Go.Proofs
end
section
set_option linter.unusedVariables false
namespace Go.Proofs.YtpdghgfbfmaplaaGreatDoor.Wh
open Go.RowKit Go.Proofs.YtpdghgfbfmaplaaGreatDoorW.PrintWords Go.Proofs.YtpdghgfbfmaplaaGreatDoor.Num Go.Proofs.YtpdghgfbfmaplaaGreatDoor.Dec
def Sg(l:List UInt8):Value:=.string ⟨l.toArray⟩
theorem sg_of(s:ByteArray):Value.string s=Sg s.data.toList:=by unfold Sg;rw [Array.toArray_toList]
theorem c_Index(s:ByteArray)(w:World):Calls Tryz.prog 137 #[.string s,.string ⟨#[47]⟩] w fun e w'=>e=.returned (.int .i64 (Lib.indexByte s.data.toList 47))∧w'=w:=Any.stringslite_Index_one Tryz.lays219 s 47 w
theorem c_lCut_hit(s:ByteArray)(i:Nat)(w:World)(hi:Lib.indexByte s.data.toList 47=(i:Int))(hr:i+1≤s.size)(hs:s.size≤140737488355328) :
 Calls Tryz.prog 120 #[.string s,.string ⟨#[47]⟩] w fun e w'=>e=.returned (.tuple #[.string (s.extract 0 i),.string (s.extract (i+1) s.size),.bool true])∧Below w.heap.size w w':=by
 have HI:=Lib.hid hi
 clear hi
 have c1:(0:Int)≤ ↑i:=by omega
 have c2:(↑i:Int)≤ ↑s.size:=by omega
 have c3:(0:Int)≤ ↑i+1:=by omega
 have c4:(↑i+1:Int)≤ ↑s.size:=by omega
 go_enter Tryz.func120,Tryz.ntmps120
 go_wp2_with (go_at_call 137;refine(c_Index _ _).mono ?_;rintro e w' ⟨rfl,rfl⟩;rw [HI.out])
 go_quiet (fail)
 go_wp2_with fail
 go_ret3
 exact⟨rfl,below_drewN (Below.refl _ _) _⟩
theorem c_lCut_miss(s:ByteArray)(w:World)(hi:Lib.indexByte s.data.toList 47= -1) :
 Calls Tryz.prog 120 #[.string s,.string ⟨#[47]⟩] w fun e w'=>e=.returned (.tuple #[.string s,.string ⟨#[]⟩,.bool false])∧Below w.heap.size w w':=by
 have HI:=Lib.hid hi
 clear hi
 go_enter Tryz.func120,Tryz.ntmps120
 go_wp2_with (go_at_call 137;refine(c_Index _ _).mono ?_;rintro e w' ⟨rfl,rfl⟩;rw [HI.out])
 go_ret3
 exact⟨rfl,Below.refl _ _⟩
theorem index_app(a b:List UInt8)(h:(47:UInt8)∉a):Lib.indexByte (a++47 :: b) 47=(a.length:Int):=by
 induction a with
 | nil=>simp [Lib.indexByte]
 | cons x t ih =>
  have h1:=ih (fun e=>h (List.mem_cons_of_mem _ e));have h2:(x==47)=false:=by rw [beq_eq_false_iff_ne];intro e;exact h (by rw [e];exact List.mem_cons_self)
  simp only [List.cons_append,Lib.indexByte,h1,h2,List.length_cons];rw [if_neg (by simp),if_neg (by simp)];simp
theorem index_no(a:List UInt8)(h:(47:UInt8)∉a):Lib.indexByte a 47= -1:=by
 induction a with
 | nil=>simp [Lib.indexByte]
 | cons x t ih =>
  have h1:=ih (fun e=>h (List.mem_cons_of_mem _ e));have h2:(x==47)=false:=by rw [beq_eq_false_iff_ne];intro e;exact h (by rw [e];exact List.mem_cons_self)
  simp [Lib.indexByte,h1,h2]
theorem sg_eq(s:ByteArray)(l:List UInt8)(h:s.data.toList=l):Value.string s=Sg l:=by rw [sg_of,h]
theorem size_mk(l:List UInt8):(⟨l.toArray⟩:ByteArray).size=l.length:=by simp [ByteArray.size]
theorem mem_split(l:List UInt8):(47:UInt8)∈l→∃a b,(47:UInt8)∉a∧l=a++47 :: b:=by
 induction l with
 | nil=>intro h;cases h
 | cons x t ih =>
  intro h;by_cases hx:x=47
  · subst hx;exact⟨[],t,by simp,rfl⟩
  · obtain⟨a,b,h1,h2⟩:=ih (by rcases List.mem_cons.1 h with e|e;exact absurd e.symm hx;exact e);refine⟨x :: a,b,?_,by rw [h2];rfl⟩;intro e;rcases List.mem_cons.1 e with e|e
    · exact hx e.symm
    · exact h1 e
theorem c_Cut_yes(a b:List UInt8)(w:World)(ha:(47:UInt8)∉a)(hs:(a++47 :: b).length≤140737488355328) :
 Calls Tryz.prog 101 #[Sg (a++47 :: b),Sg [47]] w fun e w'=>e=.returned (.tuple #[Sg a,Sg b,.bool true])∧Below w.heap.size w w':=by
 have h:=c_lCut_hit ⟨(a++47 :: b).toArray⟩ a.length w (index_app a b ha) (by rw [size_mk];simp) (by rw [size_mk];exact hs)
 rw [sg_eq (ByteArray.extract ⟨(a++47 :: b).toArray⟩ 0 a.length) a (by rw [Lib.extract_data];simp),sg_eq (ByteArray.extract ⟨(a++47 :: b).toArray⟩ (a.length+1) _) b (by rw [Lib.extract_to_end];simp)]at h
 unfold Sg at h ⊢
 have H:=Lib.hid h
 clear h
 go_enter Tryz.func101,Tryz.ntmps101
 go_wp2_with (go_at_call 120;refine H.out.mono ?_;rintro e w' ⟨rfl,hb⟩)
 go_ret3
 exact⟨rfl,hb⟩
theorem c_Cut_no(a:List UInt8)(w:World)(ha:(47:UInt8)∉a) :
 Calls Tryz.prog 101 #[Sg a,Sg [47]] w fun e w'=>e=.returned (.tuple #[Sg a,Sg [],.bool false])∧Below w.heap.size w w':=by
 have h:=c_lCut_miss ⟨a.toArray⟩ w (index_no a ha)
 have H:=Lib.hid h
 clear h
 unfold Sg
 go_enter Tryz.func101,Tryz.ntmps101
 go_wp2_with (go_at_call 120;refine H.out.mono ?_;rintro e w' ⟨rfl,hb⟩)
 go_ret3
 exact⟨rfl,hb⟩
theorem c_CutPrefix(l:List UInt8)(w:World) :
 Calls Tryz.prog 121 #[Sg l,Sg [45]] w fun e w'=>e=.returned (.tuple #[Sg (if l.head?=some 45 then l.tail else l),.bool (decide (l.head?=some 45))])∧w'=w:=by
 refine(Any.strings_CutPrefix Tryz.lays103 ⟨l.toArray⟩ ⟨#[45]⟩ w).mono ?_
 rintro e w' ⟨rfl,rfl⟩
 refine⟨?_,rfl⟩
 cases l with
 | nil=>rfl
 | cons x t =>
  by_cases hx:x=45
  · subst hx;simp [Lib.trimPrefix,Lib.hasPrefix,Sg,List.isPrefixOf]
  · have:(45:UInt8)≠x:=fun e=>hx e.symm
    simp [Lib.trimPrefix,Lib.hasPrefix,Sg,List.isPrefixOf,hx,this]
theorem ten_iff(c:UInt8):([48,49,50,51,52,53,54,55,56,57]:List UInt8).contains c=true↔48≤c.toNat∧c.toNat≤57:=by
 simp only [List.contains_eq_mem,decide_eq_true_eq,List.mem_cons,List.not_mem_nil,or_false]
 constructor
 · rintro(rfl|rfl|rfl|rfl|rfl|rfl|rfl|rfl|rfl|rfl) <;> decide
 · rintro⟨h1,h2⟩;have:c.toNat=48∨c.toNat=49∨c.toNat=50∨c.toNat=51∨c.toNat=52∨c.toNat=53∨c.toNat=54∨c.toNat=55∨c.toNat=56∨c.toNat=57:=by omega
   rcases this with h|h|h|h|h|h|h|h|h|h
   · exact .inl (u8_eq h)
   · exact .inr (.inl (u8_eq h))
   · exact .inr (.inr (.inl (u8_eq h)))
   · exact .inr (.inr (.inr (.inl (u8_eq h))))
   · exact .inr (.inr (.inr (.inr (.inl (u8_eq h)))))
   · exact .inr (.inr (.inr (.inr (.inr (.inl (u8_eq h))))))
   · exact .inr (.inr (.inr (.inr (.inr (.inr (.inl (u8_eq h)))))))
   · exact .inr (.inr (.inr (.inr (.inr (.inr (.inr (.inl (u8_eq h))))))))
   · exact .inr (.inr (.inr (.inr (.inr (.inr (.inr (.inr (.inl (u8_eq h)))))))))
   · exact .inr (.inr (.inr (.inr (.inr (.inr (.inr (.inr (.inr (u8_eq h)))))))))
theorem dropW_nil(p:UInt8→Bool)(l:List UInt8):l.dropWhile p= []↔∀c∈l,p c=true:=by
 induction l with
 | nil=>simp
 | cons x t ih =>
  by_cases hx:p x=true
  · rw [List.dropWhile_cons_of_pos hx,ih];simp [hx]
  · rw [List.dropWhile_cons_of_neg hx];simp [hx]
theorem trim_nil(l:List UInt8):Lib.trimS l [48,49,50,51,52,53,54,55,56,57]= []↔Digs l:=by
 have e0:∀m:List UInt8,Lib.trimLeftS m [48,49,50,51,52,53,54,55,56,57]= []↔Digs m:=fun m=>by
  unfold Lib.trimLeftS
  rw [dropW_nil];exact⟨fun h c hc=>(ten_iff c).1 (h c hc),fun h c hc=>(ten_iff c).2 (h c hc)⟩
 unfold Lib.trimS
 rw [e0]
 constructor
 · intro h;unfold Lib.trimRightS at h
   have h1:(l.reverse.dropWhile (([48,49,50,51,52,53,54,55,56,57]:List UInt8).contains ·))= []:=by
    match he:l.reverse.dropWhile (([48,49,50,51,52,53,54,55,56,57]:List UInt8).contains ·)with
    | []=>rfl
    | x :: t =>
     exfalso
     have hx:=List.head?_dropWhile_not (([48,49,50,51,52,53,54,55,56,57]:List UInt8).contains ·) l.reverse;rw [he]at hx;simp only [List.head?_cons]at hx;have h3:=h x (by rw [he];simp);have:=(ten_iff x).2 h3;rw [this]at hx;simp at hx
   rw [dropW_nil]at h1;intro c hc;exact(ten_iff c).1 (h1 c (by simpa using hc))
 · intro h c hc;refine h c ?_;unfold Lib.trimRightS at hc
   have:=List.mem_reverse.1 hc;have:=(List.dropWhile_sublist _).subset this;exact List.mem_reverse.1 this
theorem c_Trim(l:List UInt8)(w:World)(hl:l.length≤9223372036854775807) :
 Calls Tryz.prog 122 #[Sg l,Sg [48,49,50,51,52,53,54,55,56,57]] w fun e w'=>∃r:List UInt8,e=.returned (Sg r)∧(r= []↔Digs l)∧Below w.heap.size w w':=by
 refine(Any.strings_Trim_laid Tryz.lays160 (by kernel_rfl) ⟨l.toArray⟩ ⟨#[48,49,50,51,52,53,54,55,56,57]⟩ w (by rw [size_mk];exact hl) (by decide) (ascii_of_all (by decide))).mono ?_
 rintro e w' ⟨rfl,hb⟩
 exact⟨_,rfl,trim_nil l,hb⟩
theorem c_TrimLeft(l:List UInt8)(w:World) :
 Calls Tryz.prog 107 #[Sg l,Sg [48]] w fun e w'=>e=.returned (Sg (l.dropWhile (· == 48)))∧w'=w:=Any.strings_TrimLeft_one Tryz.lays161 ⟨l.toArray⟩ 48 (by decide) w
end Go.Proofs.YtpdghgfbfmaplaaGreatDoor.Wh
end
section
set_option linter.unusedVariables false
namespace Go.Proofs.YtpdghgfbfmaplaaGreatDoor.Wh
open Go.RowKit Go.Shelf Go.Proofs.YtpdghgfbfmaplaaGreatDoor.Num Go.Proofs.YtpdghgfbfmaplaaGreatDoor.Dec
attribute [local go_sem] Oper.semAt_some
structure Wd where
 i:Nat
 y:Nat
 h:y<1000000000
def encW(x:Wd):Array Value:= #[.int .i64 (x.i:Int),.int .u32 (x.y:Int)]
def upto{α:Type}(f:Nat→α)(k:Nat):List α:=(List.range k).map f
theorem upto_succ{α:Type}(f:Nat→α)(k:Nat):upto f (k+1)=upto f k++ [f k]:=by simp [upto,List.range_succ]
theorem upto_length{α:Type}(f:Nat→α)(k:Nat):(upto f k).length=k:=by simp [upto]
def wdAt(l:List Int)(j:Nat):Wd:=if h:(at0 l j).toNat<1000000000 then⟨j,(at0 l j).toNat,h⟩else ⟨j,0,by decide⟩
theorem wdAt_i(l:List Int)(j:Nat):(wdAt l j).i=j:=by unfold wdAt;split <;> rfl
theorem wdAt_y{l:List Int}(hd:Dg 1000000000 l)(j:Nat):((wdAt l j).y:Int)=at0 l j:=by
 have h:=hd.at0_ (by decide) j
 unfold wdAt
 rw [dif_pos (by omega)]
 simp only
 omega
def KS(S:Nat→Prop)(W W':World):Prop:=W.heap.size≤W'.heap.size∧∀k,S k→k<W.heap.size→W'.heap[k]?=W.heap[k]?
theorem KS.refl(S:Nat→Prop)(W:World):KS S W W:=⟨Nat.le_refl _,fun _ _ _=>rfl⟩
theorem KS.trans{S:Nat→Prop}{A B C:World}(h:KS S A B)(k:KS S B C):KS S A C:=⟨Nat.le_trans h.1 k.1,fun i hi hl=>(k.2 i hi (Nat.lt_of_lt_of_le hl h.1)).trans (h.2 i hi hl)⟩
theorem KS.cell{S:Nat→Prop}{W W':World}(h:KS S W W'){a:Addr}{v:Value}(hS:S a.block)(hc:W.cell? a=some v):W'.cell? a=some v:=by
 have e:=h.2 a.block hS (World.block_lt_of_cell? (h:=hc))
 rw [←hc]
 simp only [World.cell?,e]
theorem down1_in(F:Fence)(n:Nat)(h79:F.fn 123)(hro:F.round=none)(hn:1≤n)(lp Bs:Nat)(S:Nat→Prop)(A:Option Addr)(cap:Nat)(l:List Int)(hd:Dg 1000000000 l)(hlen:l.length≤20000000000010)(hS:S Bs)(J Jx:List Wd→World→Prop)
 (hY:∀pre x W,J pre W→pre.length<l.length→YieldAt F (n-1) Tryz.prog lp (encW x) W fun e W' =>
  (e=.returned (.bool true)∧J (pre++ [x]) W'∧KS S W W')∨(e=.returned (.bool false)∧Jx (pre++ [x]) W'))
 (W:World) (hBs:W.cell? ⟨Bs,1,none⟩=some (.slice A l.length cap)) (hc:∀j,j<l.length→∃ad,A=some ad∧S (ad.add j).block∧W.cell? (ad.add j)=some (.int .u32 (at0 l j))) (h0:J [] W) :
 CallsIn F n Tryz.prog 123 #[.func (.yield lp) #[] #[],.pointer (some ⟨Bs,0,none⟩)] W fun e W'=>(∃v,e=.returned v) ∧
  ((∃ys,ys=upto (fun j=>wdAt l (l.length-1-j)) l.length∧J ys W')∨(∃pre,True∧Jx pre W')):=by
 refine callsIn_of_wp Tryz.func123 rfl h79 ?_ hro
 simp only [Tryz.ntmps123,List.size_toArray,List.length_cons,List.length_nil,Nat.reduceAdd,Nat.reduceSub,Array.replicate_succ,Array.replicate_zero,List.push_toArray,List.append_toArray,List.nil_append,List.cons_append]
 have HC:=Lib.hid hc
 clear hc
 gi_wp2
 gi_loopw [3] (fun i wr=>∃r:Nat,r≤l.length∧i=.int .i64 ((r:Int)-1)∧J (upto (fun j=>wdAt l (l.length-1-j)) (l.length-r)) wr∧KS S W wr)
  (fun i _=>(intOf i+1).toNat)
 case atStart=>exact ⟨l.length,Nat.le_refl _,rfl,by rw [Nat.sub_self];exact h0,KS.refl _ _⟩
 case round =>
  obtain⟨r,hr,rfl,hJs,hk⟩:=hrel;have hBs':=hk.cell (a:=⟨Bs,1,none⟩) hS hBs;rcases Nat.eq_zero_or_pos r with rfl|hr0
  · gi_wp2
    go_end0
    exact⟨⟨_,rfl⟩,.inl ⟨_,by rw [Nat.sub_zero],hJs⟩⟩
  · obtain⟨r,rfl⟩:∃m,r=m+1:=⟨r-1,by omega⟩;rw [show ((r+1:Nat):Int)-1=(r:Int) by omega];obtain⟨ad,rfl,hSa,hca⟩:=HC.out r (by omega);have hcx:=hk.cell (a:=ad.add r) hSa hca;obtain⟨fn,tmps,assign,body,hy,hR⟩:=hY _ (wdAt l r) wr hJs (by rw [upto_length];omega);unfold encW at hy
    rw [wdAt_i,wdAt_y hd]at hy;generalize at0 l r=y at *
    gi_wp2
    refine hR.mono ?_;rintro e W3 (⟨rfl,hJ3,hk3⟩|⟨rfl,hJx3⟩)
    · gi_wp2
      go_roundw
      case rel =>
       refine⟨r,by omega,rfl,?_,hk.trans hk3⟩;rw [show l.length-r=(l.length-(r+1))+1 by omega,upto_succ,show l.length-1-(l.length-(r+1))=r by omega];exact hJ3
      case measure=>simp [intOf]
    · gi_wp2
      refine bodyPost_ret (results_none rfl _ _ _) rfl ?_;exact⟨⟨_,rfl⟩,.inr ⟨_,trivial,hJx3⟩⟩
end Go.Proofs.YtpdghgfbfmaplaaGreatDoor.Wh
end
section
set_option linter.unusedVariables false
namespace Go.Proofs.YtpdghgfbfmaplaaGreatDoor.Wh
open Go.RowKit Go.Shelf Go.Proofs.YtpdghgfbfmaplaaGreatDoor.Num Go.Proofs.YtpdghgfbfmaplaaGreatDoor.Dec
attribute [local go_sem] Oper.semAt_some
def rfBody:Code→Option Code
 | .rangeFunc _ _ _ b=>some b
 | .seq a b=>match rfBody a with
  | some c=>some c
  | none=>rfBody b
 | .cond _ a b=>match rfBody a with
  | some c=>some c
  | none=>rfBody b
 | .block _ c=>rfBody c
 | .loop c=>rfBody c
 | .scope c=>rfBody c
 | _=>none
def enc8(c:UInt8):Value:=.int .u8 (c.toNat:Int)
def arrD(y m:Nat):Array Value:=(List.replicate m (Value.int .u8 0)++(pad (9-m) y).map enc8).toArray
theorem pad_front(k:Nat):∀n,pad (k+1) n=dig (n/10^k) :: pad k n:=by
 induction k with
 | zero=>intro n;simp [pad]
 | succ k ih =>
  intro n;rw [pad,ih (n/10),Nat.div_div_eq_div_mul,←Nat.pow_succ'];rfl
theorem arrD_get(y m:Nat):(arrD y (m+1))[m]?=some (.int .u8 0):=by
 unfold arrD
 rw [List.getElem?_toArray,List.getElem?_append_left (by simp),List.getElem?_replicate,if_pos (by omega)]
theorem arrD_set(y:Nat){m:Nat}(h:m<9):(arrD y (m+1)).setIfInBounds m (.int .u8 (48+((y/10^(8-m):Nat):Int)%10))=arrD y m:=by
 have e1:9-m=(8-m)+1:=by omega
 have e2:9-(m+1)=8-m:=by omega
 unfold arrD
 rw [e1,e2,pad_front]
 apply Array.ext'
 simp only [Array.toList_setIfInBounds,List.map_cons]
 rw [List.replicate_succ',List.append_assoc,List.set_append_right _ _ (by simp)]
 congr 1
 simp [enc8,dig_toNat]
theorem info5:(Tryz.prog.info? 5).map (fun i=>(i.zero,i.size,i.bytes))=some (some (.int .u8 0),1,1):=by kernel_rfl
theorem wpIn_of_run{F:Fence}{n lp:Nat}{P:Program}{o:Oper}{a:Act}{w w':World}{v:Value}{K:Act→World→Prop}{Q:Exit→Act→World→Prop}(hd:∀c,o.op≠ .defer c)(hab:o.about P w a.eval=none)
 (hr:(execOp a.eval o).run P w=.ok (.value v) w') (h:K (a.put o.dst v) w'):Oper.wpIn (F.inRound lp) n P o a w K Q:=by
 refine⟨(fun f hf=>by rw [hab]at hf;cases hf),?_⟩
 rw [show (F.inRound lp).round=some lp from rfl,Oper.semAt_some lp _ _ hd,hr]
 exact h
theorem wpIn_of_skip{F:Fence}{n lp:Nat}{P:Program}{o:Oper}{a:Act}{w w':World}{K:Act→World→Prop}{Q:Exit→Act→World→Prop}(hd:∀c,o.op≠ .defer c)(hab:o.about P w a.eval=none)
 (hr:(execOp a.eval o).run P w=.ok .skip w') (h:K (a.put o.dst undef) w'):Oper.wpIn (F.inRound lp) n P o a w K Q:=by
 refine⟨(fun f hf=>by rw [hab]at hf;cases hf),?_⟩
 rw [show (F.inRound lp).round=some lp from rfl,Oper.semAt_some lp _ _ hd,hr]
 exact h
theorem run_append_op{P:Program}{o:Oper}{a:Act}{w w':World}{v u v':Value}(s x:Operand)(t:TypeId)(ho:o.op=.call { callee:=.builtin .append,args:= #[s,x],argTypes:= #[t,t] })(hs:a.eval s=v)(hx:a.eval x=u)
 (hr:(Builtin.append_ #[t,t] o.type #[v,u]).run P w=.ok v' w'):(execOp a.eval o).run P w=.ok (.value v') w':=by
 unfold execOp
 simp only [ho,resolve,invoke,builtin,Sem.run_bind,Sem.run_pure,Result.andThen_ok,List.map_toArray,List.map_cons,List.map_nil,hs,hx,hr]
theorem str_r12(F:Fence)(n lp:Nat)(Q:Exit→Act→World→Prop)(Bo base:Nat)(y:Nat)(W W1:World)(v:Value)(xs:List UInt8)(A:Array Value)(hA:A.toList=(pad 9 y).map enc8)(hbox:Boxed W Bo 101 v)(hrow:W.ownsRow base 5 1 v xs.length (xs.map enc8))(hb:base≤W.heap.size)(hxl:xs.length+9≤140737488355328){s0 s1 s2 s4 s8 s9 s10 s11 s12 s13 s14 s27 s28 s29 s30 s31 s32 s33 s34 s35 s36 s37:Value}{u5 u7 u15 u16 u17 u18 u19 u20 u21 u22 u23 u24 u25 u26:Value}(hW1:W1=W.alloc (.cells A 105))
 (hQ:∀(v':Value) (w2:World),w2.ownsRow base 5 1 v' (xs.length+9) (xs.map enc8++(pad 9 y).map enc8)→W1.drew.grownBy w2 v.ownBlock→Q .normal ⟨#[s0,s1,s2,.pointer (some ⟨Bo,0,none⟩),s4,u5,.pointer (some ⟨W.heap.size,0,none⟩),u7,s8,s9,s10,s11,s12,s13,s14,u15,u16,u17,u18,u19,u20,u21,u22,u23,u24,u25,u26,v,.slice (some ⟨W.heap.size,0,none⟩) 9 9,v',s30,s31,s32,s33,s34,s35,s36,s37],[]⟩ (w2.setCell ⟨Bo,0,none⟩ v')) :
 Code.wpIn (F.inRound lp) n Tryz.prog (((Tryz.f64.body.bind rfBody).bind (regOf 12)).getD .skip) Q ⟨#[s0,s1,s2,.pointer (some ⟨Bo,0,none⟩),s4,u5,.pointer (some ⟨W.heap.size,0,none⟩),u7,s8,s9,s10,s11,s12,s13,s14,u15,u16,u17,u18,u19,u20,u21,u22,u23,u24,u25,u26,s27,s28,s29,s30,s31,s32,s33,s34,s35,s36,s37],[]⟩ W1:=by
 obtain⟨i0,hi,hz0,hz1,hz2⟩:=info_parts info5
 have hBo:=hbox.cell
 have hlt:=hbox.lt
 have hs9:A.size=9:=by rw [←Array.length_toList,hA];simp [pad_len]
 obtain⟨v',w2,hrun,hrow2,hgrow,-⟩:=run_append_own (P:=Tryz.prog) (w:=W1.drew) base 101 101 5 i0 (.int .u8 0) 1 1 Tryz.underlying101 hi hz0 hz1 hz2 rfl (by decide) v xs.length (xs.map enc8) (by rw [hW1];exact(hrow.alloc (.cells A 105)).drew) ⟨W.heap.size,0,none⟩ 9 9 ((pad 9 y).map enc8) (by simp [pad_len])
  (by
   intro j u hj;rw [hW1,World.cell?_drew];have hj9:j<9:=by have:=(List.getElem?_eq_some_iff.1 hj).1;simpa [pad_len]using this
   have:(⟨W.heap.size,0,none⟩:Addr).add j=⟨W.heap.size,j,none⟩:=by unfold Addr.add;split <;> simp_all
   rw [this]
   exact cell_new rfl (by rw [←Array.getElem?_toList,hA];exact hj))
  (by intro u hu;obtain⟨c,_,rfl⟩:=List.mem_map.1 hu;rfl) (by unfold maxLen;omega) (by omega) (by rw [hW1];simp;omega)
 conv=>arg 4;whnf
 refine wpIn_region_any (by kernel_rfl) ?_
 change wpAnyIn _ _ _ _ _ _ _ _ _ W1.drew
 have hc1:W1.drew.cell? ⟨Bo,0,none⟩=some v:=by rw [hW1,World.cell?_drew];exact cell_old hBo hlt
 have hf1:W1.drew.frozen? ⟨Bo,0,none⟩=false:=by rw [hW1,World.frozen?_drew];exact froz_old hbox.frozen hlt
 have hc2:w2.cell? ⟨Bo,0,none⟩=some v∧w2.frozen? ⟨Bo,0,none⟩=false:=by
  have hne:some Bo≠v.ownBlock:=hbox.not_row (by decide) hrow;have e:=hgrow.block Bo (by rw [hW1];simp;omega) hne;have e2:W1.drew.heap[Bo]?=W.heap[Bo]?:=by rw [hW1];exact Below.heap_alloc W _ Bo hlt
  have e3:w2.heap[Bo]?=some (.cells #[v] 101 (0,0)):=(e.trans e2).trans hbox;constructor
  · simp [World.cell?,e3]
  · simp [World.frozen?,e3]
 have HQ:=Lib.hid hQ
 have HH:=Lib.hid hgrow
 have HR:=Lib.hid hrow2
 obtain⟨hc2,hf2⟩:=hc2
 obtain⟨g',cap',rfl⟩:=ownsRow_succ (k:=xs.length+8) HR.out
 clear hW1 hQ hs9 hA hgrow hrow2
 refine wpAnyIn_ready (rs:=[0,1]) (by kernel_rfl) (by simp) (AllReadyIn.cons rfl (fun K hK=>?_) (AllReadyIn.cons rfl (fun K hK=>?_) AllReadyIn.nil))
 · rw [if_pos (by kernel_rfl)];refine wpIn_of_run (v:=v) (w':=W1.drew) (by intro c h;cases h) rfl (by go_simp) (hK _ _ ?_);refine wpAnyIn_ready (rs:=[1]) (by kernel_rfl) (by simp) (AllReadyIn.cons rfl (fun K hK=>?_) AllReadyIn.nil);rw [if_pos (by kernel_rfl)];refine wpIn_of_run (v:=.slice (some ⟨W.heap.size,0,none⟩) 9 9) (w':=W1.drew) (by intro c h;cases h) rfl (by go_simp) (hK _ _ ?_);refine wpAnyIn_ready (rs:=[2]) (by kernel_rfl) (by simp) (AllReadyIn.cons rfl (fun K hK=>?_) AllReadyIn.nil);rw [if_pos (by kernel_rfl)];refine wpIn_of_run (v:=.slice (some ⟨g',0,none⟩) (xs.length+8+1) cap') (w':=w2) (by intro c h;cases h) rfl (run_append_op (.tmp 27) (.tmp 28) 101 rfl rfl rfl hrun) (hK _ _ ?_);refine wpAnyIn_ready (rs:=[3]) (by kernel_rfl) (by simp) (AllReadyIn.cons rfl (fun K hK=>?_) AllReadyIn.nil);rw [if_pos (by kernel_rfl)];refine wpIn_of_skip (w':=w2.setCell ⟨Bo,0,none⟩ (.slice (some ⟨g',0,none⟩) (xs.length+8+1) cap')) (by intro c h;cases h) rfl (by go_simp) (hK _ _ ?_);exact wpAnyIn_done (by kernel_rfl) (HQ.out _ w2 HR.out HH.out) _
 · rw [if_pos (by kernel_rfl)];refine wpIn_of_run (v:=.slice (some ⟨W.heap.size,0,none⟩) 9 9) (w':=W1.drew) (by intro c h;cases h) rfl (by go_simp) (hK _ _ ?_);refine wpAnyIn_ready (rs:=[0]) (by kernel_rfl) (by simp) (AllReadyIn.cons rfl (fun K hK=>?_) AllReadyIn.nil);rw [if_pos (by kernel_rfl)];refine wpIn_of_run (v:=v) (w':=W1.drew) (by intro c h;cases h) rfl (by go_simp) (hK _ _ ?_);refine wpAnyIn_ready (rs:=[2]) (by kernel_rfl) (by simp) (AllReadyIn.cons rfl (fun K hK=>?_) AllReadyIn.nil);rw [if_pos (by kernel_rfl)];refine wpIn_of_run (v:=.slice (some ⟨g',0,none⟩) (xs.length+8+1) cap') (w':=w2) (by intro c h;cases h) rfl (run_append_op (.tmp 27) (.tmp 28) 101 rfl rfl rfl hrun) (hK _ _ ?_);refine wpAnyIn_ready (rs:=[3]) (by kernel_rfl) (by simp) (AllReadyIn.cons rfl (fun K hK=>?_) AllReadyIn.nil);rw [if_pos (by kernel_rfl)];refine wpIn_of_skip (w':=w2.setCell ⟨Bo,0,none⟩ (.slice (some ⟨g',0,none⟩) (xs.length+8+1) cap')) (by intro c h;cases h) rfl (by go_simp) (hK _ _ ?_);exact wpAnyIn_done (by kernel_rfl) (HQ.out _ w2 HR.out HH.out) _
theorem str_round(F:Fence)(n lp:Nat)(Q:Exit→Act→World→Prop)(Bo base:Nat)(x:Wd)(W:World)(v:Value)(xs:List UInt8)(hbox:Boxed W Bo 101 v)(hrow:W.ownsRow base 5 1 v xs.length (xs.map enc8))(hb:base≤W.heap.size)(hBb:base≤Bo)(hxl:xs.length+9≤140737488355328)
 (hQ:∀(a':Act) (v':Value) (W':World),Boxed W' Bo 101 v'→W'.ownsRow base 5 1 v' (xs++pad 9 x.y).length ((xs++pad 9 x.y).map enc8)→KeepsOthers W W'→Below base W W'→(∀k,k<W.heap.size→k≠Bo→some k≠v.ownBlock→W'.heap[k]?=W.heap[k]?)→Q .normal a' W') {s0 s2 s4 s6 s7 s8 s9 s10 s11 s12 s13 s14 s15 s16 s17 s18 s19 s20 s21 s22 s23 s24 s25 s26 s27 s28 s29 s30 s31 s32 s33 s34 s35 s36 s37:Value} {s1:Value} :
 Code.wpIn (F.inRound lp) n Tryz.prog ((Tryz.f64.body.bind rfBody).getD .skip) Q ⟨#[s0,s1,s2,.pointer (some ⟨Bo,0,none⟩),s4,.int .u32 (x.y:Int),s6,s7,s8,s9,s10,s11,s12,s13,s14,s15,s16,s17,s18,s19,s20,s21,s22,s23,s24,s25,s26,s27,s28,s29,s30,s31,s32,s33,s34,s35,s36,s37],[]⟩ W:=by
 conv=>arg 4;whnf
 gi_wp2
 gi_loopw [5,7] (fun s5 s7 W'=>∃m:Nat,m≤9∧s7=.int .i64 ((m:Int)-1)∧s5=.int .u32 ((x.y/10^(9-m):Nat):Int)∧W'=W.alloc (.cells (arrD x.y m) 105)) (fun _ s7 _=>(intOf s7+1).toNat)
 case atStart=>exact ⟨9,Nat.le_refl _,rfl,by simp,rfl⟩
 case round =>
  obtain⟨m,hm,rfl,rfl,rfl⟩:=hrel;rcases Nat.eq_zero_or_pos m with rfl|hm0
  · gi_wp2
    refine str_r12 F n lp _ Bo base x.y W _ v xs (arrD x.y 0) (by simp [arrD]) hbox hrow hb hxl rfl ?_;intro v' w2 hr2 hg2;have hg3:(W.alloc (.cells (arrD x.y 0) 105)).grownBy w2 v.ownBlock:=⟨hg2.os,hg2.tape,hg2.output,hg2.size,hg2.block⟩;obtain⟨h1,h2,h3,h4,h5⟩:=hbox.appended (by decide) hrow hb hBb hr2 hg3;refine hQ _ v' _ h2 ?_ h4 h5 ?_
    · rw [List.length_append,pad_len,List.map_append];exact h3
    · intro k hk hne hrow';rw [Below.heap_setCell w2 ⟨Bo,0,none⟩ v' k hne,hg3.block k (by simp;omega) hrow'];exact Below.heap_alloc W _ k hk
  · obtain⟨m,rfl⟩:∃r,m=r+1:=⟨m-1,by omega⟩;rw [show ((m+1:Nat):Int)-1=(m:Int) by omega];have hA:=arrD_get x.y m;have hc:(W.alloc (.cells (arrD x.y (m+1)) 105)).cell? ⟨W.heap.size,m,none⟩=some (.int .u8 0):=cell_new rfl hA;have hf:(W.alloc (.cells (arrD x.y (m+1)) 105)).frozen? ⟨W.heap.size,m,none⟩=false:=froz_new rfl;have hst:(arrD x.y (m+1)).setIfInBounds m (.int .u8 (48+((x.y/10^(9-(m+1)):Nat):Int)%10))=arrD x.y m:=by
     rw [show 9-(m+1)=8-m by omega,arrD_set x.y (by omega)]
    have hv:x.y/10^(9-(m+1))<1000000000:=Nat.lt_of_le_of_lt (Nat.div_le_self _ _) x.h;have HN:=Lib.hid (show x.y/10^(9-m)=x.y/10^(9-(m+1))/10 by rw [Nat.div_div_eq_div_mul,←Nat.pow_succ,show (9-(m+1)).succ=9-m by omega]);generalize hvv:x.y/10^(9-(m+1))=v at *
    have HST:=Lib.hid hst;clear hst hvv hA;generalize arrD x.y (m+1)=A at *
    gi_wp2
    exact⟨⟨m,by omega,rfl,by rw [HN.out];rfl,by rw [HST.out]⟩,by simp [intOf]⟩
end Go.Proofs.YtpdghgfbfmaplaaGreatDoor.Wh
end
section
set_option linter.unusedVariables false
namespace Go.Proofs.YtpdghgfbfmaplaaGreatDoor.Wh
open Go.RowKit Go.Shelf Go.Proofs.YtpdghgfbfmaplaaGreatDoor.Num Go.Proofs.YtpdghgfbfmaplaaGreatDoor.Dec Go.Proofs.YtpdghgfbfmaplaaGreatDoorW.PrintWords
attribute [local go_sem] Oper.semAt_some
theorem c_down(F:Fence)(n:Nat)(h67:F.fn 106)(hro:F.round=none)(b:Bool)(A:Option Addr)(m c:Nat)(w:World) :
 CallsIn F n Tryz.prog 106 #[.agg #[.bool b,.slice A m c]] w fun e w'=>e=.returned (.func (.func 123) #[] #[.pointer (some ⟨w.heap.size,0,none⟩)])∧w'=w.alloc (.cells #[.bool b,.slice A m c] 50):=by
 refine callsIn_of_wp Tryz.func106 rfl h67 ?_ hro
 simp only [Tryz.ntmps106,List.size_toArray,List.length_cons,List.length_nil,Nat.reduceAdd,Nat.reduceSub,Array.replicate_succ,Array.replicate_zero,List.push_toArray,List.append_toArray,List.nil_append,List.cons_append]
 gi_wp2
 go_ret
 exact⟨rfl,rfl⟩
def fOut(pre:List Wd):List UInt8:=pre.flatMap (fun x=>pad 9 x.y)
theorem fOut_snoc(pre:List Wd)(x:Wd):fOut (pre++ [x])=fOut pre++pad 9 x.y:=by simp [fOut]
theorem fOut_len(pre:List Wd):(fOut pre).length=9*pre.length:=by
 induction pre with
 | nil=>rfl
 | cons x t ih =>
  rw [show fOut (x :: t)=pad 9 x.y++fOut t from rfl,List.length_append,pad_len,ih,List.length_cons];omega
theorem fOut_all{l:List Int}(hd:Dg 1000000000 l):fOut (upto (fun j=>wdAt l (l.length-1-j)) l.length)=outs l:=by
 have h:∀k,k≤l.length→fOut (upto (fun j=>wdAt l (l.length-1-j)) k)=(l.drop (l.length-k)).reverse.flatMap (fun y=>pad 9 y.toNat):=by
  intro k;induction k with
  | zero=>intro _;simp [upto,fOut]
  | succ k ih =>
   intro hk;rw [upto_succ,fOut_snoc,ih (by omega)];have e:l.drop (l.length-(k+1))=at0 l (l.length-1-k) :: l.drop (l.length-k):=by
    rw [List.drop_eq_getElem_cons (by omega)];congr 1
    · simp only [at0];rw [List.getD_eq_getElem?_getD,List.getElem?_eq_getElem (by omega)];simp only [Option.getD_some];congr 1
      omega
    · congr 1;omega
   rw [e,List.reverse_cons,List.flatMap_append];congr 1
   have:=wdAt_y hd (l.length-1-k);simp only [List.flatMap_cons,List.flatMap_nil,List.append_nil];congr 1
   omega
 have:=h l.length (Nat.le_refl _)
 rw [Nat.sub_self,List.drop_zero]at this
 exact this
theorem enc8_nums(l:List UInt8):l.map enc8=nums .u8 (l.map (fun c=>(c.toNat:Int))):=by simp [nums,enc8]
theorem own50{W:World}{B:Nat}{cs:Array Value}(h:W.heap[B]?=some (.cells cs 50 (0,0))){base size k:Nat}{v:Value}{xs:List Value}(hr:W.ownsRow base 5 size v k xs):some B≠v.ownBlock:=by
 rcases hr.2 with ⟨rfl,_⟩|⟨g,cap,cur,rfl,_,hgb,_⟩
 · simp [Value.ownBlock]
 · intro e;obtain rfl:g=B:=by simpa [Value.ownBlock,eq_comm]using e
   rw [h]at hgb;cases hgb
theorem cat45(l:List UInt8):(⟨#[45]⟩:ByteArray)++⟨l.toArray⟩=⟨(45 :: l).toArray⟩:=by
 apply ByteArray.ext
 simp
theorem own_bytes{W:World}{base n:Nat}{v:Value}{l:List UInt8}(h:W.ownsRow base 5 1 v n (l.map enc8)):(convert 101 9 v).run Tryz.prog W=.ok (.string ⟨l.toArray⟩) W:=by
 rw [enc8_nums]at h
 rw [own_string (P:=Tryz.prog) (src:=101) (dst:=9) (e:=5) Tryz.underlying101 Tryz.underlying5 Tryz.underlying9 h]
 congr 2
 unfold strOfNums
 congr 2
 rw [List.map_map]
 conv=>rhs;rw [←List.map_id l]
 apply List.map_congr_left
 intro c _
 simp
section
variable {P:Nat→Prop} {K:Nat} {w:World}
theorem c_String{x:WV}{z:Int}(hx:IsW P K w x z)(hn:x.n≤15637498706000) :
 Calls Tryz.prog 64 #[.agg #[.bool x.b,.slice x.A x.n x.c]] w fun e w'=>e=.returned (Sg (strW z))∧Below w.heap.size w w':=by
 refine(callsIn_wide (n:=4)).1 ?_
 have HX:=Lib.hid hx
 clear hx
 obtain⟨xb,xA,xn,xc⟩:=x
 simp only at hn
 refine callsIn_of_wp_marks Tryz.func64 rfl trivial ?_ rfl
 simp only [Tryz.ntmps64,List.size_toArray,List.length_cons,List.length_nil,Nat.reduceAdd,Nat.reduceSub,Array.replicate_succ,Array.replicate_zero,List.push_toArray,List.append_toArray,List.nil_append,List.cons_append]
 by_cases hz:z=0
 · gi_wp2_with (refine⟨trivial,?_⟩;gi_at_call 105;refine(callsIn_wide.2 (c_Zero (HX.out.below blo))).mono ?_;rintro e w1 ⟨rfl,hb1⟩;rw [decide_eq_true hz];have HF1:=Lib.hid (Fr.go (Fr.new1 (Fr.nil (Nat.le_refl w.heap.size)) (.bool xb) (.slice xA xn xc) 50) hb1);have q0:=HF1.out.get 0 rfl;have q1:=HF1.out.get 1 rfl;have hz1:w.heap.size<w1.heap.size:=HF1.out.1)
   exact⟨_,results_tmp rfl _ _ _,by rw [hz];simp [Sg,strW,dec_zero],blo⟩
 · gi_wp2_with (first
    | (refine⟨trivial,?_⟩;gi_at_call 105;refine(callsIn_wide.2 (c_Zero (HX.out.below blo))).mono ?_;rintro e w1 ⟨rfl,hb1⟩;rw [decide_eq_false hz];have HF1:=Lib.hid (Fr.go (Fr.new1 (Fr.nil (Nat.le_refl w.heap.size)) (.bool xb) (.slice xA xn xc) 50) hb1);have q0:=HF1.out.get 0 rfl;have q1:=HF1.out.get 1 rfl;have hz1:w.heap.size<w1.heap.size:=HF1.out.1)
    | (refine⟨trivial,?_⟩;gi_at_call 106;refine(c_down _ _ trivial rfl _ _ _ _ _).mono ?_;rintro e w2 ⟨rfl,rfl⟩))
   obtain⟨⟨l,hln,hsl,hrep,hbd⟩,hxb⟩:=HX.out;simp only at hln hsl hrep hbd hxb
   subst hln;have HB1:=Lib.hid (show Below w.heap.size w w1 from blo);have hd:=rdg hrep;have hcells:∀j,j<l.length→∃ad,xA=some ad∧((ad.add j).block<w.heap.size∨(ad.add j).block=w1.heap.size+1)∧((w1.alloc (.cells #[.slice none 0 0] 101)).alloc (.cells #[.bool xb,.slice xA l.length xc] 50)).cell? (ad.add j)=some (.int .u32 (at0 l j)):=by
    intro j hj;rcases sl_cells hsl with h|⟨ad,e,h⟩
    · rw [h]at hj;simp at hj
    · have hw:w.cell? (ad.add j)=some (.int .u32 (at0 l j)):=h j _ (by rw [List.getElem?_map,List.getElem?_eq_getElem hj,at0_lt hj];rfl);have hlt:=World.block_lt_of_cell? (h:=hw);refine⟨ad,e,.inl hlt,?_⟩;exact cell_old (cell_old ((HB1.out.cell hlt).trans hw) (by omega)) (by simp;omega)
   have HC:=Lib.hid hcells;have HREP:=Lib.hid hrep;have HXB:=Lib.hid hxb;have HHD:=Lib.hid hd;clear hcells hrep hxb hsl hbd hd;refine wpIn_rangeFunc_ownG (F:=Fence.wide) (n:=4) rfl (by decide) (gf:=123) (lb:= #[.pointer (some ⟨w1.heap.size+1,0,none⟩)]) rfl trivial (enters_of Tryz.func123 (by kernel_rfl) rfl)
    (encs:=encW) (Kp:=KS (fun k=>k<w.heap.size∨k=w1.heap.size+1)) (S:=fun ys=>ys=upto (fun j=>wdAt l (l.length-1-j)) l.length) (Sp:=fun _=>True) (N:=l.length) (w0:=(w1.alloc (.cells #[.slice none 0 0] 101)).alloc (.cells #[.bool xb,.slice xA l.length xc] 50)) ?hseq ?hKt ?hKb (Below.refl _ _) (fun _=>rfl)
    (fun pre W=>(∃v,Boxed W w1.heap.size 101 v∧W.ownsRow w.heap.size 5 1 v (fOut pre).length ((fOut pre).map enc8)∧True)∧(Below w.heap.size w W∧W.heap[w1.heap.size+1]?=some (.cells #[.bool xb,.slice xA l.length xc] 50 (0,0))∧W.heap[w.heap.size]?=some (.cells #[.bool xb,.slice xA l.length xc] 50 (0,0))))
    (fun _ _ _=>False) ?hI (fun _ _ _ _ _ hs _ _=>hs) ?h0 (fun y=> { tmps:= #[.agg #[.bool xb,.slice xA l.length xc],.pointer (some ⟨w.heap.size,0,none⟩),.string ⟨#[]⟩,.pointer (some ⟨w1.heap.size,0,none⟩),undef,.int .u32 (y.y:Int),undef,undef,undef,.agg #[.bool xb,.slice xA l.length xc],.bool false,.agg #[.bool xb,.slice xA l.length xc],.func (.func 123) #[] #[.pointer (some ⟨w1.heap.size+1,0,none⟩)],.int .i64 (y.i:Int),.int .u32 (y.y:Int),undef,undef,undef,undef,undef,undef,undef,undef,undef,undef,undef,undef,undef,undef,undef,undef,undef,undef,undef,undef,undef,undef,undef],defers:=[] }) ?assign ?body ?done ?stop
   case hseq =>
    intro lp J Jx W hW _ _ hY h0;refine down1_in Fence.wide 3 trivial rfl (by decide) lp (w1.heap.size+1) _ xA xc l HHD.out (by omega) (.inr rfl) J Jx hY W ?_ ?_ h0
    · exact cell_below hW (by simp) (cell_new1 (by simp))
    · intro j hj;obtain⟨ad,e,hs,hc⟩:=HC.out j hj;exact⟨ad,e,hs,cell_below hW (by rcases hs with h|h <;> simp <;> omega) hc⟩
   case hKt=>exact fun h k=>h.trans k
   case hKb =>
    intro W lo o o' hl ho _ _;have hg:=grownBy_putObj' W lo o';refine⟨hg.size,fun k hk hkl=>hg.block k hkl ?_⟩;intro e;have:k=lo:=by simpa using e
    simp at hl
    rcases hk with hk|hk <;> omega
   case hI =>
    refine OwnFrom.and (Own.from (holdsRow_own w.heap.size w1.heap.size 101 5 1 (fun pre=>(fOut pre).length) (fun pre=>(fOut pre).map enc8) (fun _ _=>True)) _) (OwnFrom.and (ownFrom_below (Nat.le_refl _) (by simp;omega)) ?_);intro s W W' row hs hg hr;refine⟨(hg.block _ ?_ ?_).trans hs.1,(hg.block _ ?_ ?_).trans hs.2⟩
    · exact(Array.getElem?_eq_some_iff.1 hs.1).1
    · intro e;have:=(hr _ e.symm).1;simp at this;omega
    · exact(Array.getElem?_eq_some_iff.1 hs.2).1
    · intro e;have:=(hr _ e.symm).1;simp at this;omega
   case h0 =>
    have hbx1:w1.heap[w.heap.size]?=some (.cells #[.bool xb,.slice xA l.length xc] 50 (0,0)):=(hb1.block _ (by simp)).trans (World.alloc_heap_new w _);refine⟨⟨.slice none 0 0,(Boxed.new w1 101 (.slice none 0 0)).alloc _,World.ownsRow_nil _ _ _ _,trivial⟩,?_,?_,?_⟩
    · have hb9:=HB1.out;exact blo
    · have:=World.alloc_heap_new (w1.alloc (.cells #[.slice none 0 0] 101)) (.cells #[.bool xb,.slice xA l.length xc] 50);rwa [World.size_alloc]at this
    · exact(Below.heap_alloc _ _ _ (by simp;omega)).trans ((Below.heap_alloc w1 _ _ hz1).trans hbx1)
   case assign =>
    intro lp y W K hK;unfold encW
    gi_wp2
    exact hK
   case body =>
    rintro lp pre y W ⟨⟨v,hv,hrow,-⟩,hB,hbs,hbx⟩ hlt;refine str_round Fence.wide _ lp _ w1.heap.size w.heap.size y W v (fOut pre) hv hrow hB.size (by omega) (by rw [fOut_len];omega) ?_;intro a' v' W' h1 h2 h3 h4 h5;refine⟨h3.from _,⟨h4.size,fun k hk hkl=>?_⟩,⟨⟨v',h1,by rw [fOut_snoc];exact h2,trivial⟩,hB.trans h4,?_,?_⟩⟩
    · rcases hk with hk|rfl
      · exact h4.block k hk
      · exact h5 _ hkl (by omega) (own50 hbs hrow)
    · exact(h5 _ (Array.getElem?_eq_some_iff.1 hbs).1 (by omega) (own50 hbs hrow)).trans hbs
    · exact(h5 _ (Array.getElem?_eq_some_iff.1 hbx).1 (by omega) (own50 hbx hrow)).trans hbx
   case done =>
    rintro D ys W hD rfl ⟨⟨v,hv,hrow,-⟩,hB,hbs,hbx⟩ hK;have hc:=hv.cell;have hcv:=own_bytes hrow;have hx0:W.cell? ⟨w.heap.size,0,none⟩=some (.bool xb):=by simp [World.cell?,hbx]
    have HV:=Lib.hid (show(fOut (upto (fun j=>wdAt l (l.length-1-j)) l.length)).dropWhile (· == 48)=dec z.natAbs from by
     rw [fOut_all HHD.out,outs_dec HREP.out (by omega)];congr 1)
    have hol:(fOut (upto (fun j=>wdAt l (l.length-1-j)) l.length)).length=9*l.length:=by rw [fOut_len,upto_length]
    have hdl:(dec z.natAbs).length≤140737488354000:=by
     rw [←HV.out];exact Nat.le_trans (List.dropWhile_sublist _).length_le (by rw [hol];omega)
    clear hol;generalize fOut (upto (fun j=>wdAt l (l.length-1-j)) l.length)=o at *
    clear hrow hbs hbx;have HRB:=Lib.hid (show Below w.heap.size w (W.putObj D (.deferred none))from hB.trans (belowK_b (w:=w) (Nat.le_refl _) W D _ _ (by simp at hD;omega) hK rfl rfl));by_cases hneg:z<0
    · obtain rfl:xb=true:=by rw [HXB.out];simpa using hneg
      gi_wp2_with (refine⟨trivial,?_⟩;gi_at_call 107;refine(callsIn_wide.2 (c_TrimLeft _ _)).mono ?_;rintro e w5 ⟨rfl,rfl⟩;rw [HV.out];unfold Sg)
      refine⟨by simp,.inl ⟨_,_,rfl,run_takeDeferred hK,?_⟩⟩;exact⟨_,results_tmp rfl _ _ _,by rw [cat45];simp [Sg,strW,hneg],HRB.out⟩
    · obtain rfl:xb=false:=by rw [HXB.out];simpa using hneg
      gi_wp2_with (refine⟨trivial,?_⟩;gi_at_call 107;refine(callsIn_wide.2 (c_TrimLeft _ _)).mono ?_;rintro e w5 ⟨rfl,rfl⟩;rw [HV.out];unfold Sg)
      refine⟨by simp,.inl ⟨_,_,rfl,run_takeDeferred hK,?_⟩⟩;exact⟨_,results_tmp rfl _ _ _,by simp [Sg,strW,hneg],HRB.out⟩
   case stop =>
    rintro D c pre W _ _ h _;exact h.elim
end
end Go.Proofs.YtpdghgfbfmaplaaGreatDoor.Wh
end
