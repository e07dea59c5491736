/-
  NARROWER THAN 'FOR EVERY INPUT', by the rows' own cells (each row's printed sentence says how): RatCommon: laid · RatOrder: laid · RatForm: laid · RatField: laid · RatFloor: laid · RatPowers: laid · RatSimplest: laid.
  DERIVED. THE GIVEN ROWS OF THIS SEAT. 7 by the template 'for every input the law returns true; each argument reads behind the call as it read before'; 0 by the template 'total and deterministic' (their statements: YtpdghgfbfmaplaaDoorTotals.lean).
  GIVEN WITH THE SEED: the statements are not yours to turn. If you find one false, say at which input.
  Laid BY PROGRAM, IN A SANDBOX (cutbox-rows.mjs): the forced cells as the released guide's own fill.sh prints them over the translation 5900ab6cedd84f85… (all of the seat's roots in one cut). By AI agents, Wed Nov 11 2026. No macro, syntax, notation, axiom, sorry.
-/
import Derived.Test.YtpdghgfbfmaplaaDoorChecked
import GoSem.PinnedTables
import GoSem.Claim
import GoSem.ClaimJoined
import GoSem.ClaimMapViews
import Derived.JoinedTies
import Derived.KernelRfl
namespace Go.Proofs.YtpdghgfbfmaplaaDoor
/- THE CELL 'sum', in the pinned program and in every row, IS THE sha256 OF THE DUMP (.gsa) THAT YtpdghgfbfmaplaaDoorProg.lean LOADS. Nothing in Lean hashes anything: it is a label: what it is worth is what the hold of that sum in a sandbox is worth. -/
noncomputable def Tryd.pinned : Pinned := { name := "ytpdghgfbfmaplaadoor", sum := "5900ab6cedd84f8520f3d2e0afb79f0006b06150a67ffc7e25febe08764dc909", checked := Tryd.checked }
namespace Rows
def none {H : Type} : Left H := { results := [], args := [] }

/- WHAT THE LISTED PACKAGE-LEVEL VARIABLES READ AS WHEN THE CALL BEGINS. Each datum BY PROGRAM (the guide's laid-datum.mjs) off the statement by which the dump's own 'gosem.cut.vars' lays the variable. In a bare row this is a premise. The card (YtpdghgfbfmaplaaDoorCards.lean) ties it to the program's text. -/
def laid_unicode_utf8_acceptRanges {H : Type} : DataW H := .agg [.agg [.lit (.int .u8 128), .lit (.int .u8 191)], .agg [.lit (.int .u8 160), .lit (.int .u8 191)], .agg [.lit (.int .u8 128), .lit (.int .u8 159)], .agg [.lit (.int .u8 144), .lit (.int .u8 191)], .agg [.lit (.int .u8 128), .lit (.int .u8 143)], .agg [.lit (.int .u8 0), .lit (.int .u8 0)], .agg [.lit (.int .u8 0), .lit (.int .u8 0)], .agg [.lit (.int .u8 0), .lit (.int .u8 0)], .agg [.lit (.int .u8 0), .lit (.int .u8 0)], .agg [.lit (.int .u8 0), .lit (.int .u8 0)], .agg [.lit (.int .u8 0), .lit (.int .u8 0)], .agg [.lit (.int .u8 0), .lit (.int .u8 0)], .agg [.lit (.int .u8 0), .lit (.int .u8 0)], .agg [.lit (.int .u8 0), .lit (.int .u8 0)], .agg [.lit (.int .u8 0), .lit (.int .u8 0)], .agg [.lit (.int .u8 0), .lit (.int .u8 0)]]
/-- One of Go's own tables, pinned by name: the form's constant. -/
def laid_unicode_utf8_first : DataW Unit := Go.Pinned.utf8First

/-- 'linkworklaw01.RatCommon': WHATEVER THE INPUT: true; the input reads as it did. -/
def ratCommonSpec : ChangeSpec := { name := "ratCommon", fn := fun _ => fun
  | [d] => { results := [.lit (.bool true)], args := [d] }
  | _ => none }
def ratCommonRow : OpenClaim := { program := "ytpdghgfbfmaplaadoor", sum := "5900ab6cedd84f8520f3d2e0afb79f0006b06150a67ffc7e25febe08764dc909", func := "linkwork/linkworklaw01.RatCommon", spec := "ratCommon", inPlace := ["internal/bytealg.IndexByteString", "internal/bytealg.IndexString"], unfollowed := true, recurses := true, named := ["internal/bytealg.MaxLen", "unicode/utf8.first", "unicode/utf8.acceptRanges"], apart := false, laid := [("unicode/utf8.acceptRanges", laid_unicode_utf8_acceptRanges), ("unicode/utf8.first", laid_unicode_utf8_first)] }
def RatCommonSaid : Prop := ratCommonRow.holds Tryd.pinned (OpenSpec.ofChange ratCommonSpec)

/-- ITS FALSE NEIGHBOUR: 'it returns false'. Refute it at one input. -/
def ratCommonWrong : ChangeSpec := { name := "ratCommon", fn := fun _ => fun
  | [d] => { results := [.lit (.bool false)], args := [d] }
  | _ => none }
def RatCommonWrongFalsely : Prop := ratCommonRow.holds Tryd.pinned (OpenSpec.ofChange ratCommonWrong)

/-- 'linkworklaw01.RatOrder': WHATEVER THE INPUT: true; the input reads as it did. -/
def ratOrderSpec : ChangeSpec := { name := "ratOrder", fn := fun _ => fun
  | [d1, d2, d3] => { results := [.lit (.bool true)], args := [d1, d2, d3] }
  | _ => none }
def ratOrderRow : OpenClaim := { program := "ytpdghgfbfmaplaadoor", sum := "5900ab6cedd84f8520f3d2e0afb79f0006b06150a67ffc7e25febe08764dc909", func := "linkwork/linkworklaw01.RatOrder", spec := "ratOrder", inPlace := ["internal/bytealg.IndexByteString", "internal/bytealg.IndexString"], unfollowed := true, recurses := true, named := ["internal/bytealg.MaxLen", "unicode/utf8.first", "unicode/utf8.acceptRanges"], apart := false, laid := [("unicode/utf8.acceptRanges", laid_unicode_utf8_acceptRanges), ("unicode/utf8.first", laid_unicode_utf8_first)] }
def RatOrderSaid : Prop := ratOrderRow.holds Tryd.pinned (OpenSpec.ofChange ratOrderSpec)

/-- ITS FALSE NEIGHBOUR: 'it returns false'. Refute it at one input. -/
def ratOrderWrong : ChangeSpec := { name := "ratOrder", fn := fun _ => fun
  | [d1, d2, d3] => { results := [.lit (.bool false)], args := [d1, d2, d3] }
  | _ => none }
def RatOrderWrongFalsely : Prop := ratOrderRow.holds Tryd.pinned (OpenSpec.ofChange ratOrderWrong)

/-- 'linkworklaw01.RatForm': WHATEVER THE INPUT: true; the input reads as it did. -/
def ratFormSpec : ChangeSpec := { name := "ratForm", fn := fun _ => fun
  | [d1, d2] => { results := [.lit (.bool true)], args := [d1, d2] }
  | _ => none }
def ratFormRow : OpenClaim := { program := "ytpdghgfbfmaplaadoor", sum := "5900ab6cedd84f8520f3d2e0afb79f0006b06150a67ffc7e25febe08764dc909", func := "linkwork/linkworklaw01.RatForm", spec := "ratForm", inPlace := ["internal/bytealg.IndexByteString", "internal/bytealg.IndexString"], unfollowed := true, recurses := true, named := ["internal/bytealg.MaxLen", "unicode/utf8.first", "unicode/utf8.acceptRanges"], apart := false, laid := [("unicode/utf8.acceptRanges", laid_unicode_utf8_acceptRanges), ("unicode/utf8.first", laid_unicode_utf8_first)] }
def RatFormSaid : Prop := ratFormRow.holds Tryd.pinned (OpenSpec.ofChange ratFormSpec)

/-- ITS FALSE NEIGHBOUR: 'it returns false'. Refute it at one input. -/
def ratFormWrong : ChangeSpec := { name := "ratForm", fn := fun _ => fun
  | [d1, d2] => { results := [.lit (.bool false)], args := [d1, d2] }
  | _ => none }
def RatFormWrongFalsely : Prop := ratFormRow.holds Tryd.pinned (OpenSpec.ofChange ratFormWrong)

/-- 'linkworklaw01.RatField': WHATEVER THE INPUT: true; the input reads as it did. -/
def ratFieldSpec : ChangeSpec := { name := "ratField", fn := fun _ => fun
  | [d1, d2, d3] => { results := [.lit (.bool true)], args := [d1, d2, d3] }
  | _ => none }
def ratFieldRow : OpenClaim := { program := "ytpdghgfbfmaplaadoor", sum := "5900ab6cedd84f8520f3d2e0afb79f0006b06150a67ffc7e25febe08764dc909", func := "linkwork/linkworklaw01.RatField", spec := "ratField", inPlace := ["internal/bytealg.IndexByteString", "internal/bytealg.IndexString"], unfollowed := true, recurses := true, named := ["internal/bytealg.MaxLen", "unicode/utf8.first", "unicode/utf8.acceptRanges"], apart := false, laid := [("unicode/utf8.acceptRanges", laid_unicode_utf8_acceptRanges), ("unicode/utf8.first", laid_unicode_utf8_first)] }
def RatFieldSaid : Prop := ratFieldRow.holds Tryd.pinned (OpenSpec.ofChange ratFieldSpec)

/-- ITS FALSE NEIGHBOUR: 'it returns false'. Refute it at one input. -/
def ratFieldWrong : ChangeSpec := { name := "ratField", fn := fun _ => fun
  | [d1, d2, d3] => { results := [.lit (.bool false)], args := [d1, d2, d3] }
  | _ => none }
def RatFieldWrongFalsely : Prop := ratFieldRow.holds Tryd.pinned (OpenSpec.ofChange ratFieldWrong)

/-- 'linkworklaw01.RatFloor': WHATEVER THE INPUT: true; the input reads as it did. -/
def ratFloorSpec : ChangeSpec := { name := "ratFloor", fn := fun _ => fun
  | [d] => { results := [.lit (.bool true)], args := [d] }
  | _ => none }
def ratFloorRow : OpenClaim := { program := "ytpdghgfbfmaplaadoor", sum := "5900ab6cedd84f8520f3d2e0afb79f0006b06150a67ffc7e25febe08764dc909", func := "linkwork/linkworklaw01.RatFloor", spec := "ratFloor", inPlace := ["internal/bytealg.IndexByteString", "internal/bytealg.IndexString"], unfollowed := true, recurses := true, named := ["internal/bytealg.MaxLen", "unicode/utf8.first", "unicode/utf8.acceptRanges"], apart := false, laid := [("unicode/utf8.acceptRanges", laid_unicode_utf8_acceptRanges), ("unicode/utf8.first", laid_unicode_utf8_first)] }
def RatFloorSaid : Prop := ratFloorRow.holds Tryd.pinned (OpenSpec.ofChange ratFloorSpec)

/-- ITS FALSE NEIGHBOUR: 'it returns false'. Refute it at one input. -/
def ratFloorWrong : ChangeSpec := { name := "ratFloor", fn := fun _ => fun
  | [d] => { results := [.lit (.bool false)], args := [d] }
  | _ => none }
def RatFloorWrongFalsely : Prop := ratFloorRow.holds Tryd.pinned (OpenSpec.ofChange ratFloorWrong)

/-- 'linkworklaw01.RatPowers': WHATEVER THE INPUT: true; the input reads as it did. -/
def ratPowersSpec : ChangeSpec := { name := "ratPowers", fn := fun _ => fun
  | [d1, d2, d3] => { results := [.lit (.bool true)], args := [d1, d2, d3] }
  | _ => none }
def ratPowersRow : OpenClaim := { program := "ytpdghgfbfmaplaadoor", sum := "5900ab6cedd84f8520f3d2e0afb79f0006b06150a67ffc7e25febe08764dc909", func := "linkwork/linkworklaw01.RatPowers", spec := "ratPowers", inPlace := ["internal/bytealg.IndexByteString", "internal/bytealg.IndexString"], unfollowed := true, recurses := true, named := ["internal/bytealg.MaxLen", "unicode/utf8.first", "unicode/utf8.acceptRanges"], apart := false, laid := [("unicode/utf8.acceptRanges", laid_unicode_utf8_acceptRanges), ("unicode/utf8.first", laid_unicode_utf8_first)] }
def RatPowersSaid : Prop := ratPowersRow.holds Tryd.pinned (OpenSpec.ofChange ratPowersSpec)

/-- ITS FALSE NEIGHBOUR: 'it returns false'. Refute it at one input. -/
def ratPowersWrong : ChangeSpec := { name := "ratPowers", fn := fun _ => fun
  | [d1, d2, d3] => { results := [.lit (.bool false)], args := [d1, d2, d3] }
  | _ => none }
def RatPowersWrongFalsely : Prop := ratPowersRow.holds Tryd.pinned (OpenSpec.ofChange ratPowersWrong)

/-- 'linkworklaw01.RatSimplest': WHATEVER THE INPUT: true; the input reads as it did. -/
def ratSimplestSpec : ChangeSpec := { name := "ratSimplest", fn := fun _ => fun
  | [d1, d2] => { results := [.lit (.bool true)], args := [d1, d2] }
  | _ => none }
def ratSimplestRow : OpenClaim := { program := "ytpdghgfbfmaplaadoor", sum := "5900ab6cedd84f8520f3d2e0afb79f0006b06150a67ffc7e25febe08764dc909", func := "linkwork/linkworklaw01.RatSimplest", spec := "ratSimplest", inPlace := ["internal/bytealg.IndexByteString", "internal/bytealg.IndexString"], unfollowed := true, recurses := true, named := ["internal/bytealg.MaxLen", "unicode/utf8.first", "unicode/utf8.acceptRanges"], apart := false, laid := [("unicode/utf8.acceptRanges", laid_unicode_utf8_acceptRanges), ("unicode/utf8.first", laid_unicode_utf8_first)] }
def RatSimplestSaid : Prop := ratSimplestRow.holds Tryd.pinned (OpenSpec.ofChange ratSimplestSpec)

/-- ITS FALSE NEIGHBOUR: 'it returns false'. Refute it at one input. -/
def ratSimplestWrong : ChangeSpec := { name := "ratSimplest", fn := fun _ => fun
  | [d1, d2] => { results := [.lit (.bool false)], args := [d1, d2] }
  | _ => none }
def RatSimplestWrongFalsely : Prop := ratSimplestRow.holds Tryd.pinned (OpenSpec.ofChange ratSimplestWrong)

/- THE SECOND FORM. 'bulk': how many values and letters a reading holds, each counted each time it is reached (what is shared counts as often as it is met; a slice's spare places count too). A statement '..UptoSaid' is the law's where the arguments, and the package variables that the reading takes, are together of bulk at most 1048576: NARROWER than '..Said'. Prove '..Said' where nothing that the law and all that it calls make is longer than what came in: it says more and counts as full. Else prove '..UptoSaid'. A law counts once. -/
mutual
def uptoBulk {H : Type} : DataW H → Nat
  | .lit (.string bytes) => bytes.length + 1
  | .lit _ => 1
  | .nil => 1
  | .ptr d => uptoBulk d + 1
  | .slice elems spare => uptoBulkAll elems + uptoBulkAll spare + 1
  | .agg parts => uptoBulkAll parts + 1
  | .iface _ d => uptoBulk d + 1
  | .map entries => uptoBulkEntries entries + 1
  | .held _ => 1
def uptoBulkAll {H : Type} : List (DataW H) → Nat
  | [] => 0
  | d :: r => uptoBulk d + uptoBulkAll r
def uptoBulkEntries {H : Type} : List (Lit × DataW H) → Nat
  | [] => 0
  | x :: r => uptoBulkEntry x + uptoBulkEntries r
def uptoBulkEntry {H : Type} : Lit × DataW H → Nat
  | (.string bytes, d) => bytes.length + uptoBulk d + 1
  | (_, d) => uptoBulk d + 1
 end
def uptoSmall : (H : Type) → List (DataW H) → Bool := fun _ ds => decide (uptoBulkAll ds ≤ 1048576)
def OpenSpec.upto (s : _root_.Go.ChangeSpec) : _root_.Go.OpenSpec := { _root_.Go.OpenSpec.ofChange s with cond := some uptoSmall }

/-- 'linkworklaw01.RatCommon', WHERE WHAT IT READS IS OF BULK AT MOST 1048576: true; the input reads as it did. -/
def ratCommonUptoRow : OpenClaim := { program := "ytpdghgfbfmaplaadoor", sum := "5900ab6cedd84f8520f3d2e0afb79f0006b06150a67ffc7e25febe08764dc909", func := "linkwork/linkworklaw01.RatCommon", spec := "ratCommon", inPlace := ["internal/bytealg.IndexByteString", "internal/bytealg.IndexString"], unfollowed := true, recurses := true, named := ["internal/bytealg.MaxLen", "unicode/utf8.first", "unicode/utf8.acceptRanges"], apart := false, laid := [("unicode/utf8.acceptRanges", laid_unicode_utf8_acceptRanges), ("unicode/utf8.first", laid_unicode_utf8_first)], narrowed := true }
def RatCommonUptoSaid : Prop := ratCommonUptoRow.holds Tryd.pinned (OpenSpec.upto ratCommonSpec)

/-- 'linkworklaw01.RatOrder', WHERE WHAT IT READS IS OF BULK AT MOST 1048576: true; the input reads as it did. -/
def ratOrderUptoRow : OpenClaim := { program := "ytpdghgfbfmaplaadoor", sum := "5900ab6cedd84f8520f3d2e0afb79f0006b06150a67ffc7e25febe08764dc909", func := "linkwork/linkworklaw01.RatOrder", spec := "ratOrder", inPlace := ["internal/bytealg.IndexByteString", "internal/bytealg.IndexString"], unfollowed := true, recurses := true, named := ["internal/bytealg.MaxLen", "unicode/utf8.first", "unicode/utf8.acceptRanges"], apart := false, laid := [("unicode/utf8.acceptRanges", laid_unicode_utf8_acceptRanges), ("unicode/utf8.first", laid_unicode_utf8_first)], narrowed := true }
def RatOrderUptoSaid : Prop := ratOrderUptoRow.holds Tryd.pinned (OpenSpec.upto ratOrderSpec)

/-- 'linkworklaw01.RatForm', WHERE WHAT IT READS IS OF BULK AT MOST 1048576: true; the input reads as it did. -/
def ratFormUptoRow : OpenClaim := { program := "ytpdghgfbfmaplaadoor", sum := "5900ab6cedd84f8520f3d2e0afb79f0006b06150a67ffc7e25febe08764dc909", func := "linkwork/linkworklaw01.RatForm", spec := "ratForm", inPlace := ["internal/bytealg.IndexByteString", "internal/bytealg.IndexString"], unfollowed := true, recurses := true, named := ["internal/bytealg.MaxLen", "unicode/utf8.first", "unicode/utf8.acceptRanges"], apart := false, laid := [("unicode/utf8.acceptRanges", laid_unicode_utf8_acceptRanges), ("unicode/utf8.first", laid_unicode_utf8_first)], narrowed := true }
def RatFormUptoSaid : Prop := ratFormUptoRow.holds Tryd.pinned (OpenSpec.upto ratFormSpec)

/-- 'linkworklaw01.RatField', WHERE WHAT IT READS IS OF BULK AT MOST 1048576: true; the input reads as it did. -/
def ratFieldUptoRow : OpenClaim := { program := "ytpdghgfbfmaplaadoor", sum := "5900ab6cedd84f8520f3d2e0afb79f0006b06150a67ffc7e25febe08764dc909", func := "linkwork/linkworklaw01.RatField", spec := "ratField", inPlace := ["internal/bytealg.IndexByteString", "internal/bytealg.IndexString"], unfollowed := true, recurses := true, named := ["internal/bytealg.MaxLen", "unicode/utf8.first", "unicode/utf8.acceptRanges"], apart := false, laid := [("unicode/utf8.acceptRanges", laid_unicode_utf8_acceptRanges), ("unicode/utf8.first", laid_unicode_utf8_first)], narrowed := true }
def RatFieldUptoSaid : Prop := ratFieldUptoRow.holds Tryd.pinned (OpenSpec.upto ratFieldSpec)

/-- 'linkworklaw01.RatFloor', WHERE WHAT IT READS IS OF BULK AT MOST 1048576: true; the input reads as it did. -/
def ratFloorUptoRow : OpenClaim := { program := "ytpdghgfbfmaplaadoor", sum := "5900ab6cedd84f8520f3d2e0afb79f0006b06150a67ffc7e25febe08764dc909", func := "linkwork/linkworklaw01.RatFloor", spec := "ratFloor", inPlace := ["internal/bytealg.IndexByteString", "internal/bytealg.IndexString"], unfollowed := true, recurses := true, named := ["internal/bytealg.MaxLen", "unicode/utf8.first", "unicode/utf8.acceptRanges"], apart := false, laid := [("unicode/utf8.acceptRanges", laid_unicode_utf8_acceptRanges), ("unicode/utf8.first", laid_unicode_utf8_first)], narrowed := true }
def RatFloorUptoSaid : Prop := ratFloorUptoRow.holds Tryd.pinned (OpenSpec.upto ratFloorSpec)

/-- 'linkworklaw01.RatPowers', WHERE WHAT IT READS IS OF BULK AT MOST 1048576: true; the input reads as it did. -/
def ratPowersUptoRow : OpenClaim := { program := "ytpdghgfbfmaplaadoor", sum := "5900ab6cedd84f8520f3d2e0afb79f0006b06150a67ffc7e25febe08764dc909", func := "linkwork/linkworklaw01.RatPowers", spec := "ratPowers", inPlace := ["internal/bytealg.IndexByteString", "internal/bytealg.IndexString"], unfollowed := true, recurses := true, named := ["internal/bytealg.MaxLen", "unicode/utf8.first", "unicode/utf8.acceptRanges"], apart := false, laid := [("unicode/utf8.acceptRanges", laid_unicode_utf8_acceptRanges), ("unicode/utf8.first", laid_unicode_utf8_first)], narrowed := true }
def RatPowersUptoSaid : Prop := ratPowersUptoRow.holds Tryd.pinned (OpenSpec.upto ratPowersSpec)

/-- 'linkworklaw01.RatSimplest', WHERE WHAT IT READS IS OF BULK AT MOST 1048576: true; the input reads as it did. -/
def ratSimplestUptoRow : OpenClaim := { program := "ytpdghgfbfmaplaadoor", sum := "5900ab6cedd84f8520f3d2e0afb79f0006b06150a67ffc7e25febe08764dc909", func := "linkwork/linkworklaw01.RatSimplest", spec := "ratSimplest", inPlace := ["internal/bytealg.IndexByteString", "internal/bytealg.IndexString"], unfollowed := true, recurses := true, named := ["internal/bytealg.MaxLen", "unicode/utf8.first", "unicode/utf8.acceptRanges"], apart := false, laid := [("unicode/utf8.acceptRanges", laid_unicode_utf8_acceptRanges), ("unicode/utf8.first", laid_unicode_utf8_first)], narrowed := true }
def RatSimplestUptoSaid : Prop := ratSimplestUptoRow.holds Tryd.pinned (OpenSpec.upto ratSimplestSpec)

end Rows
end Go.Proofs.YtpdghgfbfmaplaaDoor
