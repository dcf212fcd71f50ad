/-
  DERIVED. GIVEN WITH THE SEED: THE CARDS: each row of YtkpibibplbjciaaGreatDoorRows.lean that lists a variable, with what it lists TIED to the program's text (the seventh form; the later family's looks); each row that meets fmt, with fmt's text TOLD by the authors' own Lean function (tested against real Go, not proved from fmt's source: count such statements apart). THE CARD IS WHAT COUNTS. Prove the row's statement (the work); the ties are given (YtkpibibplbjciaaGreatDoorTie.lean); close each card by the builder's one call (the guide's Derived/Test/ToyasCard.lean, 'card_holds'). Laid BY PROGRAM, IN A SANDBOX (cutbox-door.mjs). By AI agents, Wed Nov 11 2026. No macro, syntax, notation, axiom, sorry.
-/
import Derived.Test.YtkpibibplbjciaaGreatDoorRows
import GoSem.ClaimSeven
namespace Go.Proofs.YtkpibibplbjciaaGreatDoor
namespace Rows

/-- THE TIED CARD OF 'remontoirtop.WholeSafe'. -/
def wholeSafeCard : Claim7 := { stood := { row := wholeSafeRow, standIns := [], harness := (true, "fb9d97bdac140702ff715c475432bf0c7d4b2cbc618c5e23a6e49960582f2dff"), looks := false }, kinds := [], alts := [], laidByText := true, laidKinds := [.data], laidTests := true, laidLooks := .later }
def WholeSafeCardSaid : Prop := Claim7.holds Tryz.pinned (.plain (OpenSpec.ofChange wholeSafeSpec)) wholeSafeCard

/-- THE TIED CARD OF 'remontoirtop.WholeAgain'. -/
def wholeAgainCard : Claim7 := { stood := { row := wholeAgainRow, standIns := [], harness := (true, "fb9d97bdac140702ff715c475432bf0c7d4b2cbc618c5e23a6e49960582f2dff"), looks := false }, kinds := [], alts := [], laidByText := true, laidKinds := [.data], laidTests := true, laidLooks := .later }
def WholeAgainCardSaid : Prop := Claim7.holds Tryz.pinned (.plain (OpenSpec.ofChange wholeAgainSpec)) wholeAgainCard

/-- THE TIED CARD OF 'remontoirtop.WholeTrials'. -/
def wholeTrialsCard : Claim7 := { stood := { row := wholeTrialsRow, standIns := [], harness := (true, "fb9d97bdac140702ff715c475432bf0c7d4b2cbc618c5e23a6e49960582f2dff"), looks := false }, kinds := [], alts := [], laidByText := true, laidKinds := [.data], laidTests := true, laidLooks := .later }
def WholeTrialsCardSaid : Prop := Claim7.holds Tryz.pinned (.plain (OpenSpec.ofChange wholeTrialsSpec)) wholeTrialsCard

/-- THE SECOND FORM's CARD OF 'remontoirtop.WholeSafe'. -/
def wholeSafeUptoCard : Claim7 := { stood := { row := wholeSafeUptoRow, standIns := [], harness := (true, "fb9d97bdac140702ff715c475432bf0c7d4b2cbc618c5e23a6e49960582f2dff"), looks := false }, kinds := [], alts := [], laidByText := true, laidKinds := [.data], laidTests := true, laidLooks := .later }
def WholeSafeUptoCardSaid : Prop := Claim7.holds Tryz.pinned (.plain (OpenSpec.upto wholeSafeSpec)) wholeSafeUptoCard

/-- THE SECOND FORM's CARD OF 'remontoirtop.WholeAgain'. -/
def wholeAgainUptoCard : Claim7 := { stood := { row := wholeAgainUptoRow, standIns := [], harness := (true, "fb9d97bdac140702ff715c475432bf0c7d4b2cbc618c5e23a6e49960582f2dff"), looks := false }, kinds := [], alts := [], laidByText := true, laidKinds := [.data], laidTests := true, laidLooks := .later }
def WholeAgainUptoCardSaid : Prop := Claim7.holds Tryz.pinned (.plain (OpenSpec.upto wholeAgainSpec)) wholeAgainUptoCard

/-- THE SECOND FORM's CARD OF 'remontoirtop.WholeTrials'. -/
def wholeTrialsUptoCard : Claim7 := { stood := { row := wholeTrialsUptoRow, standIns := [], harness := (true, "fb9d97bdac140702ff715c475432bf0c7d4b2cbc618c5e23a6e49960582f2dff"), looks := false }, kinds := [], alts := [], laidByText := true, laidKinds := [.data], laidTests := true, laidLooks := .later }
def WholeTrialsUptoCardSaid : Prop := Claim7.holds Tryz.pinned (.plain (OpenSpec.upto wholeTrialsSpec)) wholeTrialsUptoCard
end Rows
end Go.Proofs.YtkpibibplbjciaaGreatDoor
