/-
  No cell of these rows narrows 'for every input' (looked for: loops, veiled, ifaces, maps, wideKeys, modest, calm, conditions, laid).
  DERIVED. THE GIVEN ROWS OF THIS SEAT. 6 by the template 'for every input the law returns true; each argument reads behind the call as it read before'; 0 by the template 'total and deterministic' (their statements: YtmfcefakpfbaoaaTotals.lean).
  GIVEN WITH THE SEED: the statements are not yours to turn. If you find one false, say at which input.
  Laid BY PROGRAM, IN A SANDBOX (cutbox-rows.mjs): the forced cells as the released guide's own fill.sh prints them over the translation 0fdfdd10c68b7e88… (all of the seat's roots in one cut). By AI agents, Wed Nov 11 2026. No macro, syntax, notation, axiom, sorry.
-/
import Derived.Test.YtmfcefakpfbaoaaChecked
import GoSem.Claim
import GoSem.ClaimJoined
import GoSem.ClaimMapViews
import Derived.JoinedTies
import Derived.KernelRfl
namespace Go.Proofs.Ytmfcefakpfbaoaa
/- THE CELL 'sum', in the pinned program and in every row, IS THE sha256 OF THE DUMP (.gsa) THAT YtmfcefakpfbaoaaProg.lean LOADS. Nothing in Lean hashes anything: it is a label: what it is worth is what the hold of that sum in a sandbox is worth. -/
noncomputable def Try.pinned : Pinned := { name := "ytmfcefakpfbaoaa", sum := "0fdfdd10c68b7e88852e8c54b9e709f0e769ce4e45233fc7c7925b0732eb70a2", checked := Try.checked }
namespace Rows
def none {H : Type} : Left H := { results := [], args := [] }

/-- 'linkworklaw14.BltOrder': WHATEVER THE INPUT: true; the input reads as it did. -/
def bltOrderSpec : ChangeSpec := { name := "bltOrder", fn := fun _ => fun
  | [d] => { results := [.lit (.bool true)], args := [d] }
  | _ => none }
def bltOrderRow : OpenClaim := { program := "ytmfcefakpfbaoaa", sum := "0fdfdd10c68b7e88852e8c54b9e709f0e769ce4e45233fc7c7925b0732eb70a2", func := "linkwork/linkworklaw14.BltOrder", spec := "bltOrder", inPlace := ["internal/bytealg.IndexByteString", "internal/bytealg.IndexString", "internal/bytealg.abigen_runtime_cmpstring"], unfollowed := true, recurses := true, named := ["internal/bytealg.MaxLen"], apart := false }
def BltOrderSaid : Prop := bltOrderRow.holds Try.pinned (OpenSpec.ofChange bltOrderSpec)

/-- ITS FALSE NEIGHBOUR: 'it returns false'. Refute it at one input. -/
def bltOrderWrong : ChangeSpec := { name := "bltOrder", fn := fun _ => fun
  | [d] => { results := [.lit (.bool false)], args := [d] }
  | _ => none }
def BltOrderWrongFalsely : Prop := bltOrderRow.holds Try.pinned (OpenSpec.ofChange bltOrderWrong)

/-- 'linkworklaw14.BltSplit': WHATEVER THE INPUT: true; the input reads as it did. -/
def bltSplitSpec : ChangeSpec := { name := "bltSplit", fn := fun _ => fun
  | [d] => { results := [.lit (.bool true)], args := [d] }
  | _ => none }
def bltSplitRow : OpenClaim := { program := "ytmfcefakpfbaoaa", sum := "0fdfdd10c68b7e88852e8c54b9e709f0e769ce4e45233fc7c7925b0732eb70a2", func := "linkwork/linkworklaw14.BltSplit", spec := "bltSplit", inPlace := ["internal/bytealg.IndexByteString", "internal/bytealg.IndexString", "internal/bytealg.abigen_runtime_cmpstring"], unfollowed := true, recurses := true, named := ["internal/bytealg.MaxLen"], apart := false }
def BltSplitSaid : Prop := bltSplitRow.holds Try.pinned (OpenSpec.ofChange bltSplitSpec)

/-- ITS FALSE NEIGHBOUR: 'it returns false'. Refute it at one input. -/
def bltSplitWrong : ChangeSpec := { name := "bltSplit", fn := fun _ => fun
  | [d] => { results := [.lit (.bool false)], args := [d] }
  | _ => none }
def BltSplitWrongFalsely : Prop := bltSplitRow.holds Try.pinned (OpenSpec.ofChange bltSplitWrong)

/-- 'linkworklaw14.BltAny': WHATEVER THE INPUT: true; the input reads as it did. -/
def bltAnySpec : ChangeSpec := { name := "bltAny", fn := fun _ => fun
  | [d1, d2] => { results := [.lit (.bool true)], args := [d1, d2] }
  | _ => none }
def bltAnyRow : OpenClaim := { program := "ytmfcefakpfbaoaa", sum := "0fdfdd10c68b7e88852e8c54b9e709f0e769ce4e45233fc7c7925b0732eb70a2", func := "linkwork/linkworklaw14.BltAny", spec := "bltAny", inPlace := ["internal/bytealg.IndexByteString", "internal/bytealg.IndexString", "internal/bytealg.abigen_runtime_cmpstring"], unfollowed := true, recurses := true, named := ["internal/bytealg.MaxLen"], apart := false }
def BltAnySaid : Prop := bltAnyRow.holds Try.pinned (OpenSpec.ofChange bltAnySpec)

/-- ITS FALSE NEIGHBOUR: 'it returns false'. Refute it at one input. -/
def bltAnyWrong : ChangeSpec := { name := "bltAny", fn := fun _ => fun
  | [d1, d2] => { results := [.lit (.bool false)], args := [d1, d2] }
  | _ => none }
def BltAnyWrongFalsely : Prop := bltAnyRow.holds Try.pinned (OpenSpec.ofChange bltAnyWrong)

/-- 'linkworklaw14.BltPermuted': WHATEVER THE INPUT: true; the input reads as it did. -/
def bltPermutedSpec : ChangeSpec := { name := "bltPermuted", fn := fun _ => fun
  | [d] => { results := [.lit (.bool true)], args := [d] }
  | _ => none }
def bltPermutedRow : OpenClaim := { program := "ytmfcefakpfbaoaa", sum := "0fdfdd10c68b7e88852e8c54b9e709f0e769ce4e45233fc7c7925b0732eb70a2", func := "linkwork/linkworklaw14.BltPermuted", spec := "bltPermuted", inPlace := ["internal/bytealg.IndexByteString", "internal/bytealg.IndexString", "internal/bytealg.abigen_runtime_cmpstring"], unfollowed := true, recurses := true, named := ["internal/bytealg.MaxLen"], apart := false }
def BltPermutedSaid : Prop := bltPermutedRow.holds Try.pinned (OpenSpec.ofChange bltPermutedSpec)

/-- ITS FALSE NEIGHBOUR: 'it returns false'. Refute it at one input. -/
def bltPermutedWrong : ChangeSpec := { name := "bltPermuted", fn := fun _ => fun
  | [d] => { results := [.lit (.bool false)], args := [d] }
  | _ => none }
def BltPermutedWrongFalsely : Prop := bltPermutedRow.holds Try.pinned (OpenSpec.ofChange bltPermutedWrong)

/-- 'linkworklaw14.BltBefore': WHATEVER THE INPUT: true; the input reads as it did. -/
def bltBeforeSpec : ChangeSpec := { name := "bltBefore", fn := fun _ => fun
  | [d1, d2] => { results := [.lit (.bool true)], args := [d1, d2] }
  | _ => none }
def bltBeforeRow : OpenClaim := { program := "ytmfcefakpfbaoaa", sum := "0fdfdd10c68b7e88852e8c54b9e709f0e769ce4e45233fc7c7925b0732eb70a2", func := "linkwork/linkworklaw14.BltBefore", spec := "bltBefore", inPlace := ["internal/bytealg.IndexByteString", "internal/bytealg.IndexString", "internal/bytealg.abigen_runtime_cmpstring"], unfollowed := true, recurses := true, named := ["internal/bytealg.MaxLen"], apart := false }
def BltBeforeSaid : Prop := bltBeforeRow.holds Try.pinned (OpenSpec.ofChange bltBeforeSpec)

/-- ITS FALSE NEIGHBOUR: 'it returns false'. Refute it at one input. -/
def bltBeforeWrong : ChangeSpec := { name := "bltBefore", fn := fun _ => fun
  | [d1, d2] => { results := [.lit (.bool false)], args := [d1, d2] }
  | _ => none }
def BltBeforeWrongFalsely : Prop := bltBeforeRow.holds Try.pinned (OpenSpec.ofChange bltBeforeWrong)

/-- 'linkworklaw14.BltPlays': WHATEVER THE INPUT: true; the input reads as it did. -/
def bltPlaysSpec : ChangeSpec := { name := "bltPlays", fn := fun _ => fun
  | [d1, d2] => { results := [.lit (.bool true)], args := [d1, d2] }
  | _ => none }
def bltPlaysRow : OpenClaim := { program := "ytmfcefakpfbaoaa", sum := "0fdfdd10c68b7e88852e8c54b9e709f0e769ce4e45233fc7c7925b0732eb70a2", func := "linkwork/linkworklaw14.BltPlays", spec := "bltPlays", inPlace := ["internal/bytealg.IndexByteString", "internal/bytealg.IndexString", "internal/bytealg.abigen_runtime_cmpstring"], unfollowed := true, recurses := true, named := ["internal/bytealg.MaxLen"], apart := false }
def BltPlaysSaid : Prop := bltPlaysRow.holds Try.pinned (OpenSpec.ofChange bltPlaysSpec)

/-- ITS FALSE NEIGHBOUR: 'it returns false'. Refute it at one input. -/
def bltPlaysWrong : ChangeSpec := { name := "bltPlays", fn := fun _ => fun
  | [d1, d2] => { results := [.lit (.bool false)], args := [d1, d2] }
  | _ => none }
def BltPlaysWrongFalsely : Prop := bltPlaysRow.holds Try.pinned (OpenSpec.ofChange bltPlaysWrong)

/- THE SECOND FORM. 'bulk': how many values and letters a reading holds, each counted each time it is reached (what is shared counts as often as it is met; a slice's spare places count too). A statement '..UptoSaid' is the law's where the arguments, and the package variables that the reading takes, are together of bulk at most 1048576: NARROWER than '..Said'. Prove '..Said' where nothing that the law and all that it calls make is longer than what came in: it says more and counts as full. Else prove '..UptoSaid'. A law counts once. -/
mutual
def uptoBulk {H : Type} : DataW H → Nat
  | .lit (.string bytes) => bytes.length + 1
  | .lit _ => 1
  | .nil => 1
  | .ptr d => uptoBulk d + 1
  | .slice elems spare => uptoBulkAll elems + uptoBulkAll spare + 1
  | .agg parts => uptoBulkAll parts + 1
  | .iface _ d => uptoBulk d + 1
  | .map entries => uptoBulkEntries entries + 1
  | .held _ => 1
def uptoBulkAll {H : Type} : List (DataW H) → Nat
  | [] => 0
  | d :: r => uptoBulk d + uptoBulkAll r
def uptoBulkEntries {H : Type} : List (Lit × DataW H) → Nat
  | [] => 0
  | x :: r => uptoBulkEntry x + uptoBulkEntries r
def uptoBulkEntry {H : Type} : Lit × DataW H → Nat
  | (.string bytes, d) => bytes.length + uptoBulk d + 1
  | (_, d) => uptoBulk d + 1
 end
def uptoSmall : (H : Type) → List (DataW H) → Bool := fun _ ds => decide (uptoBulkAll ds ≤ 1048576)
def OpenSpec.upto (s : _root_.Go.ChangeSpec) : _root_.Go.OpenSpec := { _root_.Go.OpenSpec.ofChange s with cond := some uptoSmall }

/-- 'linkworklaw14.BltOrder', WHERE WHAT IT READS IS OF BULK AT MOST 1048576: true; the input reads as it did. -/
def bltOrderUptoRow : OpenClaim := { program := "ytmfcefakpfbaoaa", sum := "0fdfdd10c68b7e88852e8c54b9e709f0e769ce4e45233fc7c7925b0732eb70a2", func := "linkwork/linkworklaw14.BltOrder", spec := "bltOrder", inPlace := ["internal/bytealg.IndexByteString", "internal/bytealg.IndexString", "internal/bytealg.abigen_runtime_cmpstring"], unfollowed := true, recurses := true, named := ["internal/bytealg.MaxLen"], apart := false, narrowed := true }
def BltOrderUptoSaid : Prop := bltOrderUptoRow.holds Try.pinned (OpenSpec.upto bltOrderSpec)

/-- 'linkworklaw14.BltSplit', WHERE WHAT IT READS IS OF BULK AT MOST 1048576: true; the input reads as it did. -/
def bltSplitUptoRow : OpenClaim := { program := "ytmfcefakpfbaoaa", sum := "0fdfdd10c68b7e88852e8c54b9e709f0e769ce4e45233fc7c7925b0732eb70a2", func := "linkwork/linkworklaw14.BltSplit", spec := "bltSplit", inPlace := ["internal/bytealg.IndexByteString", "internal/bytealg.IndexString", "internal/bytealg.abigen_runtime_cmpstring"], unfollowed := true, recurses := true, named := ["internal/bytealg.MaxLen"], apart := false, narrowed := true }
def BltSplitUptoSaid : Prop := bltSplitUptoRow.holds Try.pinned (OpenSpec.upto bltSplitSpec)

/-- 'linkworklaw14.BltAny', WHERE WHAT IT READS IS OF BULK AT MOST 1048576: true; the input reads as it did. -/
def bltAnyUptoRow : OpenClaim := { program := "ytmfcefakpfbaoaa", sum := "0fdfdd10c68b7e88852e8c54b9e709f0e769ce4e45233fc7c7925b0732eb70a2", func := "linkwork/linkworklaw14.BltAny", spec := "bltAny", inPlace := ["internal/bytealg.IndexByteString", "internal/bytealg.IndexString", "internal/bytealg.abigen_runtime_cmpstring"], unfollowed := true, recurses := true, named := ["internal/bytealg.MaxLen"], apart := false, narrowed := true }
def BltAnyUptoSaid : Prop := bltAnyUptoRow.holds Try.pinned (OpenSpec.upto bltAnySpec)

/-- 'linkworklaw14.BltPermuted', WHERE WHAT IT READS IS OF BULK AT MOST 1048576: true; the input reads as it did. -/
def bltPermutedUptoRow : OpenClaim := { program := "ytmfcefakpfbaoaa", sum := "0fdfdd10c68b7e88852e8c54b9e709f0e769ce4e45233fc7c7925b0732eb70a2", func := "linkwork/linkworklaw14.BltPermuted", spec := "bltPermuted", inPlace := ["internal/bytealg.IndexByteString", "internal/bytealg.IndexString", "internal/bytealg.abigen_runtime_cmpstring"], unfollowed := true, recurses := true, named := ["internal/bytealg.MaxLen"], apart := false, narrowed := true }
def BltPermutedUptoSaid : Prop := bltPermutedUptoRow.holds Try.pinned (OpenSpec.upto bltPermutedSpec)

/-- 'linkworklaw14.BltBefore', WHERE WHAT IT READS IS OF BULK AT MOST 1048576: true; the input reads as it did. -/
def bltBeforeUptoRow : OpenClaim := { program := "ytmfcefakpfbaoaa", sum := "0fdfdd10c68b7e88852e8c54b9e709f0e769ce4e45233fc7c7925b0732eb70a2", func := "linkwork/linkworklaw14.BltBefore", spec := "bltBefore", inPlace := ["internal/bytealg.IndexByteString", "internal/bytealg.IndexString", "internal/bytealg.abigen_runtime_cmpstring"], unfollowed := true, recurses := true, named := ["internal/bytealg.MaxLen"], apart := false, narrowed := true }
def BltBeforeUptoSaid : Prop := bltBeforeUptoRow.holds Try.pinned (OpenSpec.upto bltBeforeSpec)

/-- 'linkworklaw14.BltPlays', WHERE WHAT IT READS IS OF BULK AT MOST 1048576: true; the input reads as it did. -/
def bltPlaysUptoRow : OpenClaim := { program := "ytmfcefakpfbaoaa", sum := "0fdfdd10c68b7e88852e8c54b9e709f0e769ce4e45233fc7c7925b0732eb70a2", func := "linkwork/linkworklaw14.BltPlays", spec := "bltPlays", inPlace := ["internal/bytealg.IndexByteString", "internal/bytealg.IndexString", "internal/bytealg.abigen_runtime_cmpstring"], unfollowed := true, recurses := true, named := ["internal/bytealg.MaxLen"], apart := false, narrowed := true }
def BltPlaysUptoSaid : Prop := bltPlaysUptoRow.holds Try.pinned (OpenSpec.upto bltPlaysSpec)

end Rows
end Go.Proofs.Ytmfcefakpfbaoaa
