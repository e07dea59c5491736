/-
  DERIVED. GIVEN WITH THE SEED: THE CARDS: each row of YtpdghgfbfmaplaaGreatDoorRows.lean that lists a variable, with what it lists TIED to the program's text (the seventh form; the later family's looks); each row that meets fmt, with fmt's text TOLD by the authors' own Lean function (tested against real Go, not proved from fmt's source: count such statements apart). THE CARD IS WHAT COUNTS. Prove the row's statement (the work); the ties are given (YtpdghgfbfmaplaaGreatDoorTie.lean); close each card by the builder's one call (the guide's Derived/Test/ToyasCard.lean, 'card_holds'). Laid BY PROGRAM, IN A SANDBOX (cutbox-door.mjs). By AI agents, Wed Nov 11 2026. No macro, syntax, notation, axiom, sorry.
-/
import Derived.Test.YtpdghgfbfmaplaaGreatDoorRows
import GoSem.ClaimSeven
namespace Go.Proofs.YtpdghgfbfmaplaaGreatDoor
namespace Rows

/-- THE TIED CARD OF 'linkworklaw01.RatBetween'. -/
def ratBetweenCard : Claim7 := { stood := { row := ratBetweenRow, standIns := [], harness := (true, "3e3d6ba16653f79db0ce41a23ef5a4a721bf9fe83938e5286e5336825d434c94"), looks := false }, kinds := [], alts := [], laidByText := true, laidKinds := [.data, .pinned], laidTests := true, laidLooks := .later }
def RatBetweenCardSaid : Prop := Claim7.holds Tryz.pinned (.plain (OpenSpec.ofChange ratBetweenSpec)) ratBetweenCard

/-- THE TIED CARD OF 'linkworklaw01.RatMakes'. -/
def ratMakesCard : Claim7 := { stood := { row := ratMakesRow, standIns := [], harness := (true, "3e3d6ba16653f79db0ce41a23ef5a4a721bf9fe83938e5286e5336825d434c94"), looks := false }, kinds := [], alts := [], laidByText := true, laidKinds := [.data, .pinned], laidTests := true, laidLooks := .later }
def RatMakesCardSaid : Prop := Claim7.holds Tryz.pinned (.plain (OpenSpec.ofChange ratMakesSpec)) ratMakesCard

/-- THE TIED CARD OF 'linkworklaw01.RatIs'. -/
def ratIsCard : Claim7 := { stood := { row := ratIsRow, standIns := [], harness := (true, "3e3d6ba16653f79db0ce41a23ef5a4a721bf9fe83938e5286e5336825d434c94"), looks := false }, kinds := [], alts := [], laidByText := true, laidKinds := [.data, .pinned], laidTests := true, laidLooks := .later }
def RatIsCardSaid : Prop := Claim7.holds Tryz.pinned (.plain (OpenSpec.ofChange ratIsSpec)) ratIsCard

/-- THE TIED CARD OF 'linkworklaw01.RatTwo'. -/
def ratTwoCard : Claim7 := { stood := { row := ratTwoRow, standIns := [], harness := (true, "3e3d6ba16653f79db0ce41a23ef5a4a721bf9fe83938e5286e5336825d434c94"), looks := false }, kinds := [], alts := [], laidByText := true, laidKinds := [.data, .pinned], laidTests := true, laidLooks := .later }
def RatTwoCardSaid : Prop := Claim7.holds Tryz.pinned (.plain (OpenSpec.ofChange ratTwoSpec)) ratTwoCard

/-- THE TIED CARD OF 'linkworklaw01.RatLists'. -/
def ratListsCard : Claim7 := { stood := { row := ratListsRow, standIns := [], harness := (true, "3e3d6ba16653f79db0ce41a23ef5a4a721bf9fe83938e5286e5336825d434c94"), looks := false }, kinds := [], alts := [], laidByText := true, laidKinds := [.data, .pinned], laidTests := true, laidLooks := .later }
def RatListsCardSaid : Prop := Claim7.holds Tryz.pinned (.plain (OpenSpec.ofChange ratListsSpec)) ratListsCard

/-- THE TIED CARD OF 'linkworklaw01.RatOne'. -/
def ratOneCard : Claim7 := { stood := { row := ratOneRow, standIns := [], harness := (true, "3e3d6ba16653f79db0ce41a23ef5a4a721bf9fe83938e5286e5336825d434c94"), looks := false }, kinds := [], alts := [], laidByText := true, laidKinds := [.data, .pinned], laidTests := true, laidLooks := .later }
def RatOneCardSaid : Prop := Claim7.holds Tryz.pinned (.plain (OpenSpec.ofChange ratOneSpec)) ratOneCard

/-- THE SECOND FORM's CARD OF 'linkworklaw01.RatBetween'. -/
def ratBetweenUptoCard : Claim7 := { stood := { row := ratBetweenUptoRow, standIns := [], harness := (true, "3e3d6ba16653f79db0ce41a23ef5a4a721bf9fe83938e5286e5336825d434c94"), looks := false }, kinds := [], alts := [], laidByText := true, laidKinds := [.data, .pinned], laidTests := true, laidLooks := .later }
def RatBetweenUptoCardSaid : Prop := Claim7.holds Tryz.pinned (.plain (OpenSpec.upto ratBetweenSpec)) ratBetweenUptoCard

/-- THE SECOND FORM's CARD OF 'linkworklaw01.RatMakes'. -/
def ratMakesUptoCard : Claim7 := { stood := { row := ratMakesUptoRow, standIns := [], harness := (true, "3e3d6ba16653f79db0ce41a23ef5a4a721bf9fe83938e5286e5336825d434c94"), looks := false }, kinds := [], alts := [], laidByText := true, laidKinds := [.data, .pinned], laidTests := true, laidLooks := .later }
def RatMakesUptoCardSaid : Prop := Claim7.holds Tryz.pinned (.plain (OpenSpec.upto ratMakesSpec)) ratMakesUptoCard

/-- THE SECOND FORM's CARD OF 'linkworklaw01.RatIs'. -/
def ratIsUptoCard : Claim7 := { stood := { row := ratIsUptoRow, standIns := [], harness := (true, "3e3d6ba16653f79db0ce41a23ef5a4a721bf9fe83938e5286e5336825d434c94"), looks := false }, kinds := [], alts := [], laidByText := true, laidKinds := [.data, .pinned], laidTests := true, laidLooks := .later }
def RatIsUptoCardSaid : Prop := Claim7.holds Tryz.pinned (.plain (OpenSpec.upto ratIsSpec)) ratIsUptoCard

/-- THE SECOND FORM's CARD OF 'linkworklaw01.RatTwo'. -/
def ratTwoUptoCard : Claim7 := { stood := { row := ratTwoUptoRow, standIns := [], harness := (true, "3e3d6ba16653f79db0ce41a23ef5a4a721bf9fe83938e5286e5336825d434c94"), looks := false }, kinds := [], alts := [], laidByText := true, laidKinds := [.data, .pinned], laidTests := true, laidLooks := .later }
def RatTwoUptoCardSaid : Prop := Claim7.holds Tryz.pinned (.plain (OpenSpec.upto ratTwoSpec)) ratTwoUptoCard

/-- THE SECOND FORM's CARD OF 'linkworklaw01.RatLists'. -/
def ratListsUptoCard : Claim7 := { stood := { row := ratListsUptoRow, standIns := [], harness := (true, "3e3d6ba16653f79db0ce41a23ef5a4a721bf9fe83938e5286e5336825d434c94"), looks := false }, kinds := [], alts := [], laidByText := true, laidKinds := [.data, .pinned], laidTests := true, laidLooks := .later }
def RatListsUptoCardSaid : Prop := Claim7.holds Tryz.pinned (.plain (OpenSpec.upto ratListsSpec)) ratListsUptoCard

/-- THE SECOND FORM's CARD OF 'linkworklaw01.RatOne'. -/
def ratOneUptoCard : Claim7 := { stood := { row := ratOneUptoRow, standIns := [], harness := (true, "3e3d6ba16653f79db0ce41a23ef5a4a721bf9fe83938e5286e5336825d434c94"), looks := false }, kinds := [], alts := [], laidByText := true, laidKinds := [.data, .pinned], laidTests := true, laidLooks := .later }
def RatOneUptoCardSaid : Prop := Claim7.holds Tryz.pinned (.plain (OpenSpec.upto ratOneSpec)) ratOneUptoCard
end Rows
end Go.Proofs.YtpdghgfbfmaplaaGreatDoor
