/-
  NARROWER THAN 'FOR EVERY INPUT', by the rows' own cells (each row's printed sentence says how): RatBetween: laid · RatMakes: laid · RatIs: laid · RatTwo: laid · RatLists: laid · RatOne: laid.
  DERIVED. THE GIVEN ROWS OF THIS SEAT. 6 by the template 'for every input the law returns true; each argument reads behind the call as it read before'; 0 by the template 'total and deterministic' (their statements: YtpdghgfbfmaplaaGreatDoorTotals.lean).
  GIVEN WITH THE SEED: the statements are not yours to turn. If you find one false, say at which input.
  Laid BY PROGRAM, IN A SANDBOX (cutbox-rows.mjs): the forced cells as the released guide's own fill.sh prints them over the translation 3c4ffb78c84ac5bb… (all of the seat's roots in one cut). By AI agents, Wed Nov 11 2026. No macro, syntax, notation, axiom, sorry.
-/
import Derived.Test.YtpdghgfbfmaplaaGreatDoorChecked
import GoSem.PinnedTables
import GoSem.Claim
import GoSem.ClaimJoined
import GoSem.ClaimMapViews
import Derived.JoinedTies
import Derived.KernelRfl
namespace Go.Proofs.YtpdghgfbfmaplaaGreatDoor
/- THE CELL 'sum', in the pinned program and in every row, IS THE sha256 OF THE DUMP (.gsa) THAT YtpdghgfbfmaplaaGreatDoorProg.lean LOADS. Nothing in Lean hashes anything: it is a label: what it is worth is what the hold of that sum in a sandbox is worth. -/
noncomputable def Tryz.pinned : Pinned := { name := "ytpdghgfbfmaplaagreatdoor", sum := "3c4ffb78c84ac5bbb936544ad4d18b3734a5135ddac572c558c8a0a4bf254e62", checked := Tryz.checked }
namespace Rows
def none {H : Type} : Left H := { results := [], args := [] }

/- WHAT THE LISTED PACKAGE-LEVEL VARIABLES READ AS WHEN THE CALL BEGINS. Each datum BY PROGRAM (the guide's laid-datum.mjs) off the statement by which the dump's own 'gosem.cut.vars' lays the variable. In a bare row this is a premise. The card (YtpdghgfbfmaplaaGreatDoorCards.lean) ties it to the program's text. -/
def laid_unicode_utf8_acceptRanges {H : Type} : DataW H := .agg [.agg [.lit (.int .u8 128), .lit (.int .u8 191)], .agg [.lit (.int .u8 160), .lit (.int .u8 191)], .agg [.lit (.int .u8 128), .lit (.int .u8 159)], .agg [.lit (.int .u8 144), .lit (.int .u8 191)], .agg [.lit (.int .u8 128), .lit (.int .u8 143)], .agg [.lit (.int .u8 0), .lit (.int .u8 0)], .agg [.lit (.int .u8 0), .lit (.int .u8 0)], .agg [.lit (.int .u8 0), .lit (.int .u8 0)], .agg [.lit (.int .u8 0), .lit (.int .u8 0)], .agg [.lit (.int .u8 0), .lit (.int .u8 0)], .agg [.lit (.int .u8 0), .lit (.int .u8 0)], .agg [.lit (.int .u8 0), .lit (.int .u8 0)], .agg [.lit (.int .u8 0), .lit (.int .u8 0)], .agg [.lit (.int .u8 0), .lit (.int .u8 0)], .agg [.lit (.int .u8 0), .lit (.int .u8 0)], .agg [.lit (.int .u8 0), .lit (.int .u8 0)]]
/-- One of Go's own tables, pinned by name: the form's constant. -/
def laid_unicode_utf8_first : DataW Unit := Go.Pinned.utf8First

/-- 'linkworklaw01.RatBetween': WHATEVER THE INPUT: true; the input reads as it did. -/
def ratBetweenSpec : ChangeSpec := { name := "ratBetween", fn := fun _ => fun
  | [d1, d2] => { results := [.lit (.bool true)], args := [d1, d2] }
  | _ => none }
def ratBetweenRow : OpenClaim := { program := "ytpdghgfbfmaplaagreatdoor", sum := "3c4ffb78c84ac5bbb936544ad4d18b3734a5135ddac572c558c8a0a4bf254e62", func := "linkwork/linkworklaw01.RatBetween", spec := "ratBetween", inPlace := ["internal/bytealg.IndexByteString", "internal/bytealg.IndexString"], unfollowed := true, recurses := true, named := ["internal/bytealg.MaxLen", "unicode/utf8.first", "unicode/utf8.acceptRanges"], apart := false, laid := [("unicode/utf8.acceptRanges", laid_unicode_utf8_acceptRanges), ("unicode/utf8.first", laid_unicode_utf8_first)] }
def RatBetweenSaid : Prop := ratBetweenRow.holds Tryz.pinned (OpenSpec.ofChange ratBetweenSpec)

/-- ITS FALSE NEIGHBOUR: 'it returns false'. Refute it at one input. -/
def ratBetweenWrong : ChangeSpec := { name := "ratBetween", fn := fun _ => fun
  | [d1, d2] => { results := [.lit (.bool false)], args := [d1, d2] }
  | _ => none }
def RatBetweenWrongFalsely : Prop := ratBetweenRow.holds Tryz.pinned (OpenSpec.ofChange ratBetweenWrong)

/-- 'linkworklaw01.RatMakes': WHATEVER THE INPUT: true; the input reads as it did. -/
def ratMakesSpec : ChangeSpec := { name := "ratMakes", fn := fun _ => fun
  | [d1, d2] => { results := [.lit (.bool true)], args := [d1, d2] }
  | _ => none }
def ratMakesRow : OpenClaim := { program := "ytpdghgfbfmaplaagreatdoor", sum := "3c4ffb78c84ac5bbb936544ad4d18b3734a5135ddac572c558c8a0a4bf254e62", func := "linkwork/linkworklaw01.RatMakes", spec := "ratMakes", inPlace := ["internal/bytealg.IndexByteString", "internal/bytealg.IndexString"], unfollowed := true, recurses := true, named := ["unicode/utf8.first", "unicode/utf8.acceptRanges", "internal/bytealg.MaxLen"], apart := false, laid := [("unicode/utf8.acceptRanges", laid_unicode_utf8_acceptRanges), ("unicode/utf8.first", laid_unicode_utf8_first)] }
def RatMakesSaid : Prop := ratMakesRow.holds Tryz.pinned (OpenSpec.ofChange ratMakesSpec)

/-- ITS FALSE NEIGHBOUR: 'it returns false'. Refute it at one input. -/
def ratMakesWrong : ChangeSpec := { name := "ratMakes", fn := fun _ => fun
  | [d1, d2] => { results := [.lit (.bool false)], args := [d1, d2] }
  | _ => none }
def RatMakesWrongFalsely : Prop := ratMakesRow.holds Tryz.pinned (OpenSpec.ofChange ratMakesWrong)

/-- 'linkworklaw01.RatIs': WHATEVER THE INPUT: true; the input reads as it did. -/
def ratIsSpec : ChangeSpec := { name := "ratIs", fn := fun _ => fun
  | [d] => { results := [.lit (.bool true)], args := [d] }
  | _ => none }
def ratIsRow : OpenClaim := { program := "ytpdghgfbfmaplaagreatdoor", sum := "3c4ffb78c84ac5bbb936544ad4d18b3734a5135ddac572c558c8a0a4bf254e62", func := "linkwork/linkworklaw01.RatIs", spec := "ratIs", inPlace := ["internal/bytealg.IndexByteString", "internal/bytealg.IndexString"], unfollowed := true, recurses := true, named := ["internal/bytealg.MaxLen", "unicode/utf8.first", "unicode/utf8.acceptRanges"], apart := false, laid := [("unicode/utf8.acceptRanges", laid_unicode_utf8_acceptRanges), ("unicode/utf8.first", laid_unicode_utf8_first)] }
def RatIsSaid : Prop := ratIsRow.holds Tryz.pinned (OpenSpec.ofChange ratIsSpec)

/-- ITS FALSE NEIGHBOUR: 'it returns false'. Refute it at one input. -/
def ratIsWrong : ChangeSpec := { name := "ratIs", fn := fun _ => fun
  | [d] => { results := [.lit (.bool false)], args := [d] }
  | _ => none }
def RatIsWrongFalsely : Prop := ratIsRow.holds Tryz.pinned (OpenSpec.ofChange ratIsWrong)

/-- 'linkworklaw01.RatTwo': WHATEVER THE INPUT: true; the input reads as it did. -/
def ratTwoSpec : ChangeSpec := { name := "ratTwo", fn := fun _ => fun
  | [d1, d2] => { results := [.lit (.bool true)], args := [d1, d2] }
  | _ => none }
def ratTwoRow : OpenClaim := { program := "ytpdghgfbfmaplaagreatdoor", sum := "3c4ffb78c84ac5bbb936544ad4d18b3734a5135ddac572c558c8a0a4bf254e62", func := "linkwork/linkworklaw01.RatTwo", spec := "ratTwo", inPlace := ["internal/bytealg.IndexByteString", "internal/bytealg.IndexString"], unfollowed := true, recurses := true, named := ["internal/bytealg.MaxLen", "unicode/utf8.first", "unicode/utf8.acceptRanges"], apart := false, laid := [("unicode/utf8.acceptRanges", laid_unicode_utf8_acceptRanges), ("unicode/utf8.first", laid_unicode_utf8_first)] }
def RatTwoSaid : Prop := ratTwoRow.holds Tryz.pinned (OpenSpec.ofChange ratTwoSpec)

/-- ITS FALSE NEIGHBOUR: 'it returns false'. Refute it at one input. -/
def ratTwoWrong : ChangeSpec := { name := "ratTwo", fn := fun _ => fun
  | [d1, d2] => { results := [.lit (.bool false)], args := [d1, d2] }
  | _ => none }
def RatTwoWrongFalsely : Prop := ratTwoRow.holds Tryz.pinned (OpenSpec.ofChange ratTwoWrong)

/-- 'linkworklaw01.RatLists': WHATEVER THE INPUT: true; the input reads as it did. -/
def ratListsSpec : ChangeSpec := { name := "ratLists", fn := fun _ => fun
  | [d1, d2] => { results := [.lit (.bool true)], args := [d1, d2] }
  | _ => none }
def ratListsRow : OpenClaim := { program := "ytpdghgfbfmaplaagreatdoor", sum := "3c4ffb78c84ac5bbb936544ad4d18b3734a5135ddac572c558c8a0a4bf254e62", func := "linkwork/linkworklaw01.RatLists", spec := "ratLists", inPlace := ["internal/bytealg.IndexByteString", "internal/bytealg.IndexString"], unfollowed := true, recurses := true, named := ["internal/bytealg.MaxLen", "unicode/utf8.first", "unicode/utf8.acceptRanges"], apart := false, laid := [("unicode/utf8.acceptRanges", laid_unicode_utf8_acceptRanges), ("unicode/utf8.first", laid_unicode_utf8_first)] }
def RatListsSaid : Prop := ratListsRow.holds Tryz.pinned (OpenSpec.ofChange ratListsSpec)

/-- ITS FALSE NEIGHBOUR: 'it returns false'. Refute it at one input. -/
def ratListsWrong : ChangeSpec := { name := "ratLists", fn := fun _ => fun
  | [d1, d2] => { results := [.lit (.bool false)], args := [d1, d2] }
  | _ => none }
def RatListsWrongFalsely : Prop := ratListsRow.holds Tryz.pinned (OpenSpec.ofChange ratListsWrong)

/-- 'linkworklaw01.RatOne': WHATEVER THE INPUT: true; the input reads as it did. -/
def ratOneSpec : ChangeSpec := { name := "ratOne", fn := fun _ => fun
  | [d1, d2] => { results := [.lit (.bool true)], args := [d1, d2] }
  | _ => none }
def ratOneRow : OpenClaim := { program := "ytpdghgfbfmaplaagreatdoor", sum := "3c4ffb78c84ac5bbb936544ad4d18b3734a5135ddac572c558c8a0a4bf254e62", func := "linkwork/linkworklaw01.RatOne", spec := "ratOne", inPlace := ["internal/bytealg.IndexByteString", "internal/bytealg.IndexString"], unfollowed := true, recurses := true, named := ["internal/bytealg.MaxLen", "unicode/utf8.first", "unicode/utf8.acceptRanges"], apart := false, laid := [("unicode/utf8.acceptRanges", laid_unicode_utf8_acceptRanges), ("unicode/utf8.first", laid_unicode_utf8_first)] }
def RatOneSaid : Prop := ratOneRow.holds Tryz.pinned (OpenSpec.ofChange ratOneSpec)

/-- ITS FALSE NEIGHBOUR: 'it returns false'. Refute it at one input. -/
def ratOneWrong : ChangeSpec := { name := "ratOne", fn := fun _ => fun
  | [d1, d2] => { results := [.lit (.bool false)], args := [d1, d2] }
  | _ => none }
def RatOneWrongFalsely : Prop := ratOneRow.holds Tryz.pinned (OpenSpec.ofChange ratOneWrong)

/- THE SECOND FORM. 'bulk': how many values and letters a reading holds, each counted each time it is reached (what is shared counts as often as it is met; a slice's spare places count too). A statement '..UptoSaid' is the law's where the arguments, and the package variables that the reading takes, are together of bulk at most 1048576: NARROWER than '..Said'. Prove '..Said' where nothing that the law and all that it calls make is longer than what came in: it says more and counts as full. Else prove '..UptoSaid'. A law counts once. -/
mutual
def uptoBulk {H : Type} : DataW H → Nat
  | .lit (.string bytes) => bytes.length + 1
  | .lit _ => 1
  | .nil => 1
  | .ptr d => uptoBulk d + 1
  | .slice elems spare => uptoBulkAll elems + uptoBulkAll spare + 1
  | .agg parts => uptoBulkAll parts + 1
  | .iface _ d => uptoBulk d + 1
  | .map entries => uptoBulkEntries entries + 1
  | .held _ => 1
def uptoBulkAll {H : Type} : List (DataW H) → Nat
  | [] => 0
  | d :: r => uptoBulk d + uptoBulkAll r
def uptoBulkEntries {H : Type} : List (Lit × DataW H) → Nat
  | [] => 0
  | x :: r => uptoBulkEntry x + uptoBulkEntries r
def uptoBulkEntry {H : Type} : Lit × DataW H → Nat
  | (.string bytes, d) => bytes.length + uptoBulk d + 1
  | (_, d) => uptoBulk d + 1
 end
def uptoSmall : (H : Type) → List (DataW H) → Bool := fun _ ds => decide (uptoBulkAll ds ≤ 1048576)
def OpenSpec.upto (s : _root_.Go.ChangeSpec) : _root_.Go.OpenSpec := { _root_.Go.OpenSpec.ofChange s with cond := some uptoSmall }

/-- 'linkworklaw01.RatBetween', WHERE WHAT IT READS IS OF BULK AT MOST 1048576: true; the input reads as it did. -/
def ratBetweenUptoRow : OpenClaim := { program := "ytpdghgfbfmaplaagreatdoor", sum := "3c4ffb78c84ac5bbb936544ad4d18b3734a5135ddac572c558c8a0a4bf254e62", func := "linkwork/linkworklaw01.RatBetween", spec := "ratBetween", inPlace := ["internal/bytealg.IndexByteString", "internal/bytealg.IndexString"], unfollowed := true, recurses := true, named := ["internal/bytealg.MaxLen", "unicode/utf8.first", "unicode/utf8.acceptRanges"], apart := false, laid := [("unicode/utf8.acceptRanges", laid_unicode_utf8_acceptRanges), ("unicode/utf8.first", laid_unicode_utf8_first)], narrowed := true }
def RatBetweenUptoSaid : Prop := ratBetweenUptoRow.holds Tryz.pinned (OpenSpec.upto ratBetweenSpec)

/-- 'linkworklaw01.RatMakes', WHERE WHAT IT READS IS OF BULK AT MOST 1048576: true; the input reads as it did. -/
def ratMakesUptoRow : OpenClaim := { program := "ytpdghgfbfmaplaagreatdoor", sum := "3c4ffb78c84ac5bbb936544ad4d18b3734a5135ddac572c558c8a0a4bf254e62", func := "linkwork/linkworklaw01.RatMakes", spec := "ratMakes", inPlace := ["internal/bytealg.IndexByteString", "internal/bytealg.IndexString"], unfollowed := true, recurses := true, named := ["unicode/utf8.first", "unicode/utf8.acceptRanges", "internal/bytealg.MaxLen"], apart := false, laid := [("unicode/utf8.acceptRanges", laid_unicode_utf8_acceptRanges), ("unicode/utf8.first", laid_unicode_utf8_first)], narrowed := true }
def RatMakesUptoSaid : Prop := ratMakesUptoRow.holds Tryz.pinned (OpenSpec.upto ratMakesSpec)

/-- 'linkworklaw01.RatIs', WHERE WHAT IT READS IS OF BULK AT MOST 1048576: true; the input reads as it did. -/
def ratIsUptoRow : OpenClaim := { program := "ytpdghgfbfmaplaagreatdoor", sum := "3c4ffb78c84ac5bbb936544ad4d18b3734a5135ddac572c558c8a0a4bf254e62", func := "linkwork/linkworklaw01.RatIs", spec := "ratIs", inPlace := ["internal/bytealg.IndexByteString", "internal/bytealg.IndexString"], unfollowed := true, recurses := true, named := ["internal/bytealg.MaxLen", "unicode/utf8.first", "unicode/utf8.acceptRanges"], apart := false, laid := [("unicode/utf8.acceptRanges", laid_unicode_utf8_acceptRanges), ("unicode/utf8.first", laid_unicode_utf8_first)], narrowed := true }
def RatIsUptoSaid : Prop := ratIsUptoRow.holds Tryz.pinned (OpenSpec.upto ratIsSpec)

/-- 'linkworklaw01.RatTwo', WHERE WHAT IT READS IS OF BULK AT MOST 1048576: true; the input reads as it did. -/
def ratTwoUptoRow : OpenClaim := { program := "ytpdghgfbfmaplaagreatdoor", sum := "3c4ffb78c84ac5bbb936544ad4d18b3734a5135ddac572c558c8a0a4bf254e62", func := "linkwork/linkworklaw01.RatTwo", spec := "ratTwo", inPlace := ["internal/bytealg.IndexByteString", "internal/bytealg.IndexString"], unfollowed := true, recurses := true, named := ["internal/bytealg.MaxLen", "unicode/utf8.first", "unicode/utf8.acceptRanges"], apart := false, laid := [("unicode/utf8.acceptRanges", laid_unicode_utf8_acceptRanges), ("unicode/utf8.first", laid_unicode_utf8_first)], narrowed := true }
def RatTwoUptoSaid : Prop := ratTwoUptoRow.holds Tryz.pinned (OpenSpec.upto ratTwoSpec)

/-- 'linkworklaw01.RatLists', WHERE WHAT IT READS IS OF BULK AT MOST 1048576: true; the input reads as it did. -/
def ratListsUptoRow : OpenClaim := { program := "ytpdghgfbfmaplaagreatdoor", sum := "3c4ffb78c84ac5bbb936544ad4d18b3734a5135ddac572c558c8a0a4bf254e62", func := "linkwork/linkworklaw01.RatLists", spec := "ratLists", inPlace := ["internal/bytealg.IndexByteString", "internal/bytealg.IndexString"], unfollowed := true, recurses := true, named := ["internal/bytealg.MaxLen", "unicode/utf8.first", "unicode/utf8.acceptRanges"], apart := false, laid := [("unicode/utf8.acceptRanges", laid_unicode_utf8_acceptRanges), ("unicode/utf8.first", laid_unicode_utf8_first)], narrowed := true }
def RatListsUptoSaid : Prop := ratListsUptoRow.holds Tryz.pinned (OpenSpec.upto ratListsSpec)

/-- 'linkworklaw01.RatOne', WHERE WHAT IT READS IS OF BULK AT MOST 1048576: true; the input reads as it did. -/
def ratOneUptoRow : OpenClaim := { program := "ytpdghgfbfmaplaagreatdoor", sum := "3c4ffb78c84ac5bbb936544ad4d18b3734a5135ddac572c558c8a0a4bf254e62", func := "linkwork/linkworklaw01.RatOne", spec := "ratOne", inPlace := ["internal/bytealg.IndexByteString", "internal/bytealg.IndexString"], unfollowed := true, recurses := true, named := ["internal/bytealg.MaxLen", "unicode/utf8.first", "unicode/utf8.acceptRanges"], apart := false, laid := [("unicode/utf8.acceptRanges", laid_unicode_utf8_acceptRanges), ("unicode/utf8.first", laid_unicode_utf8_first)], narrowed := true }
def RatOneUptoSaid : Prop := ratOneUptoRow.holds Tryz.pinned (OpenSpec.upto ratOneSpec)

end Rows
end Go.Proofs.YtpdghgfbfmaplaaGreatDoor
