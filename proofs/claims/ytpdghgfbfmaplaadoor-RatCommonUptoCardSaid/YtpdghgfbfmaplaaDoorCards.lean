/-
  DERIVED. GIVEN WITH THE SEED: THE CARDS: each row of YtpdghgfbfmaplaaDoorRows.lean that lists a variable, with what it lists TIED to the program's text (the seventh form; the later family's looks); each row that meets fmt, with fmt's text TOLD by the authors' own Lean function (tested against real Go, not proved from fmt's source: count such statements apart). THE CARD IS WHAT COUNTS. Prove the row's statement (the work); the ties are given (YtpdghgfbfmaplaaDoorTie.lean); close each card by the builder's one call (the guide's Derived/Test/ToyasCard.lean, 'card_holds'). Laid BY PROGRAM, IN A SANDBOX (cutbox-door.mjs). By AI agents, Wed Nov 11 2026. No macro, syntax, notation, axiom, sorry.
-/
import Derived.Test.YtpdghgfbfmaplaaDoorRows
import GoSem.ClaimSeven
namespace Go.Proofs.YtpdghgfbfmaplaaDoor
namespace Rows

/-- THE TIED CARD OF 'linkworklaw01.RatCommon'. -/
def ratCommonCard : Claim7 := { stood := { row := ratCommonRow, standIns := [], harness := (true, "f18a4b22dd3967b89192698c36c4c58dca73715d5951aa76b5fa2acd3917485d"), looks := false }, kinds := [], alts := [], laidByText := true, laidKinds := [.data, .pinned], laidTests := true, laidLooks := .later }
def RatCommonCardSaid : Prop := Claim7.holds Tryd.pinned (.plain (OpenSpec.ofChange ratCommonSpec)) ratCommonCard

/-- THE TIED CARD OF 'linkworklaw01.RatOrder'. -/
def ratOrderCard : Claim7 := { stood := { row := ratOrderRow, standIns := [], harness := (true, "f18a4b22dd3967b89192698c36c4c58dca73715d5951aa76b5fa2acd3917485d"), looks := false }, kinds := [], alts := [], laidByText := true, laidKinds := [.data, .pinned], laidTests := true, laidLooks := .later }
def RatOrderCardSaid : Prop := Claim7.holds Tryd.pinned (.plain (OpenSpec.ofChange ratOrderSpec)) ratOrderCard

/-- THE TIED CARD OF 'linkworklaw01.RatForm'. -/
def ratFormCard : Claim7 := { stood := { row := ratFormRow, standIns := [], harness := (true, "f18a4b22dd3967b89192698c36c4c58dca73715d5951aa76b5fa2acd3917485d"), looks := false }, kinds := [], alts := [], laidByText := true, laidKinds := [.data, .pinned], laidTests := true, laidLooks := .later }
def RatFormCardSaid : Prop := Claim7.holds Tryd.pinned (.plain (OpenSpec.ofChange ratFormSpec)) ratFormCard

/-- THE TIED CARD OF 'linkworklaw01.RatField'. -/
def ratFieldCard : Claim7 := { stood := { row := ratFieldRow, standIns := [], harness := (true, "f18a4b22dd3967b89192698c36c4c58dca73715d5951aa76b5fa2acd3917485d"), looks := false }, kinds := [], alts := [], laidByText := true, laidKinds := [.data, .pinned], laidTests := true, laidLooks := .later }
def RatFieldCardSaid : Prop := Claim7.holds Tryd.pinned (.plain (OpenSpec.ofChange ratFieldSpec)) ratFieldCard

/-- THE TIED CARD OF 'linkworklaw01.RatFloor'. -/
def ratFloorCard : Claim7 := { stood := { row := ratFloorRow, standIns := [], harness := (true, "f18a4b22dd3967b89192698c36c4c58dca73715d5951aa76b5fa2acd3917485d"), looks := false }, kinds := [], alts := [], laidByText := true, laidKinds := [.data, .pinned], laidTests := true, laidLooks := .later }
def RatFloorCardSaid : Prop := Claim7.holds Tryd.pinned (.plain (OpenSpec.ofChange ratFloorSpec)) ratFloorCard

/-- THE TIED CARD OF 'linkworklaw01.RatPowers'. -/
def ratPowersCard : Claim7 := { stood := { row := ratPowersRow, standIns := [], harness := (true, "f18a4b22dd3967b89192698c36c4c58dca73715d5951aa76b5fa2acd3917485d"), looks := false }, kinds := [], alts := [], laidByText := true, laidKinds := [.data, .pinned], laidTests := true, laidLooks := .later }
def RatPowersCardSaid : Prop := Claim7.holds Tryd.pinned (.plain (OpenSpec.ofChange ratPowersSpec)) ratPowersCard

/-- THE TIED CARD OF 'linkworklaw01.RatSimplest'. -/
def ratSimplestCard : Claim7 := { stood := { row := ratSimplestRow, standIns := [], harness := (true, "f18a4b22dd3967b89192698c36c4c58dca73715d5951aa76b5fa2acd3917485d"), looks := false }, kinds := [], alts := [], laidByText := true, laidKinds := [.data, .pinned], laidTests := true, laidLooks := .later }
def RatSimplestCardSaid : Prop := Claim7.holds Tryd.pinned (.plain (OpenSpec.ofChange ratSimplestSpec)) ratSimplestCard

/-- THE SECOND FORM's CARD OF 'linkworklaw01.RatCommon'. -/
def ratCommonUptoCard : Claim7 := { stood := { row := ratCommonUptoRow, standIns := [], harness := (true, "f18a4b22dd3967b89192698c36c4c58dca73715d5951aa76b5fa2acd3917485d"), looks := false }, kinds := [], alts := [], laidByText := true, laidKinds := [.data, .pinned], laidTests := true, laidLooks := .later }
def RatCommonUptoCardSaid : Prop := Claim7.holds Tryd.pinned (.plain (OpenSpec.upto ratCommonSpec)) ratCommonUptoCard

/-- THE SECOND FORM's CARD OF 'linkworklaw01.RatOrder'. -/
def ratOrderUptoCard : Claim7 := { stood := { row := ratOrderUptoRow, standIns := [], harness := (true, "f18a4b22dd3967b89192698c36c4c58dca73715d5951aa76b5fa2acd3917485d"), looks := false }, kinds := [], alts := [], laidByText := true, laidKinds := [.data, .pinned], laidTests := true, laidLooks := .later }
def RatOrderUptoCardSaid : Prop := Claim7.holds Tryd.pinned (.plain (OpenSpec.upto ratOrderSpec)) ratOrderUptoCard

/-- THE SECOND FORM's CARD OF 'linkworklaw01.RatForm'. -/
def ratFormUptoCard : Claim7 := { stood := { row := ratFormUptoRow, standIns := [], harness := (true, "f18a4b22dd3967b89192698c36c4c58dca73715d5951aa76b5fa2acd3917485d"), looks := false }, kinds := [], alts := [], laidByText := true, laidKinds := [.data, .pinned], laidTests := true, laidLooks := .later }
def RatFormUptoCardSaid : Prop := Claim7.holds Tryd.pinned (.plain (OpenSpec.upto ratFormSpec)) ratFormUptoCard

/-- THE SECOND FORM's CARD OF 'linkworklaw01.RatField'. -/
def ratFieldUptoCard : Claim7 := { stood := { row := ratFieldUptoRow, standIns := [], harness := (true, "f18a4b22dd3967b89192698c36c4c58dca73715d5951aa76b5fa2acd3917485d"), looks := false }, kinds := [], alts := [], laidByText := true, laidKinds := [.data, .pinned], laidTests := true, laidLooks := .later }
def RatFieldUptoCardSaid : Prop := Claim7.holds Tryd.pinned (.plain (OpenSpec.upto ratFieldSpec)) ratFieldUptoCard

/-- THE SECOND FORM's CARD OF 'linkworklaw01.RatFloor'. -/
def ratFloorUptoCard : Claim7 := { stood := { row := ratFloorUptoRow, standIns := [], harness := (true, "f18a4b22dd3967b89192698c36c4c58dca73715d5951aa76b5fa2acd3917485d"), looks := false }, kinds := [], alts := [], laidByText := true, laidKinds := [.data, .pinned], laidTests := true, laidLooks := .later }
def RatFloorUptoCardSaid : Prop := Claim7.holds Tryd.pinned (.plain (OpenSpec.upto ratFloorSpec)) ratFloorUptoCard

/-- THE SECOND FORM's CARD OF 'linkworklaw01.RatPowers'. -/
def ratPowersUptoCard : Claim7 := { stood := { row := ratPowersUptoRow, standIns := [], harness := (true, "f18a4b22dd3967b89192698c36c4c58dca73715d5951aa76b5fa2acd3917485d"), looks := false }, kinds := [], alts := [], laidByText := true, laidKinds := [.data, .pinned], laidTests := true, laidLooks := .later }
def RatPowersUptoCardSaid : Prop := Claim7.holds Tryd.pinned (.plain (OpenSpec.upto ratPowersSpec)) ratPowersUptoCard

/-- THE SECOND FORM's CARD OF 'linkworklaw01.RatSimplest'. -/
def ratSimplestUptoCard : Claim7 := { stood := { row := ratSimplestUptoRow, standIns := [], harness := (true, "f18a4b22dd3967b89192698c36c4c58dca73715d5951aa76b5fa2acd3917485d"), looks := false }, kinds := [], alts := [], laidByText := true, laidKinds := [.data, .pinned], laidTests := true, laidLooks := .later }
def RatSimplestUptoCardSaid : Prop := Claim7.holds Tryd.pinned (.plain (OpenSpec.upto ratSimplestSpec)) ratSimplestUptoCard
end Rows
end Go.Proofs.YtpdghgfbfmaplaaDoor
