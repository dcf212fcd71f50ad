/-
  DERIVED. GIVEN WITH THE SEED: THE CARDS: each row of YtdimcgedcndndaaDoorRows.lean that lists a variable, with what it lists TIED to the program's text (the seventh form; the later family's looks); each row that meets fmt, with fmt's text TOLD by the authors' own Lean function (tested against real Go, not proved from fmt's source: count such statements apart). THE CARD IS WHAT COUNTS. Prove the row's statement (the work); the ties are given (YtdimcgedcndndaaDoorTie.lean); close each card by the builder's one call (the guide's Derived/Test/ToyasCard.lean, 'card_holds'). Laid BY PROGRAM, IN A SANDBOX (cutbox-door.mjs). By AI agents, Wed Nov 11 2026. No macro, syntax, notation, axiom, sorry.
-/
import Derived.Test.YtdimcgedcndndaaDoorRows
import GoSem.ClaimSeven
namespace Go.Proofs.YtdimcgedcndndaaDoor
namespace Rows

/-- THE TIED CARD OF 'remontoirlaw22.ReadyPlays'. -/
def readyPlaysCard : Claim7 := { stood := { row := readyPlaysRow, standIns := [], harness := (true, "3603e660136b1921cb9f742bc841b9ec612f393fc17fb7707fd169dd1f08532f"), looks := false }, kinds := [], alts := [], laidByText := true, laidKinds := [.data], laidTests := true, laidLooks := .later }
def ReadyPlaysCardSaid : Prop := Claim7.holds Tryd.pinned (.plain (OpenSpec.ofChange readyPlaysSpec)) readyPlaysCard

/-- THE TIED CARD OF 'remontoirlaw22.ReadyDrains'. -/
def readyDrainsCard : Claim7 := { stood := { row := readyDrainsRow, standIns := [], harness := (true, "3603e660136b1921cb9f742bc841b9ec612f393fc17fb7707fd169dd1f08532f"), looks := false }, kinds := [], alts := [], laidByText := true, laidKinds := [.data], laidTests := true, laidLooks := .later }
def ReadyDrainsCardSaid : Prop := Claim7.holds Tryd.pinned (.plain (OpenSpec.ofChange readyDrainsSpec)) readyDrainsCard

/-- THE TIED CARD OF 'remontoirlaw51.MboxOrder'. -/
def mboxOrderCard : Claim7 := { stood := { row := mboxOrderRow, standIns := [], harness := (true, "3603e660136b1921cb9f742bc841b9ec612f393fc17fb7707fd169dd1f08532f"), looks := false }, kinds := [], alts := [], laidByText := true, laidKinds := [.data], laidTests := true, laidLooks := .later }
def MboxOrderCardSaid : Prop := Claim7.holds Tryd.pinned (.plain (OpenSpec.ofChange mboxOrderSpec)) mboxOrderCard

/-- THE TIED CARD OF 'remontoirlaw51.MboxPlays'. -/
def mboxPlaysCard : Claim7 := { stood := { row := mboxPlaysRow, standIns := [], harness := (true, "3603e660136b1921cb9f742bc841b9ec612f393fc17fb7707fd169dd1f08532f"), looks := false }, kinds := [], alts := [], laidByText := true, laidKinds := [.data], laidTests := true, laidLooks := .later }
def MboxPlaysCardSaid : Prop := Claim7.holds Tryd.pinned (.plain (OpenSpec.ofChange mboxPlaysSpec)) mboxPlaysCard

/-- THE TIED CARD OF 'remontoirlaw52.SemaPlays'. -/
def semaPlaysCard : Claim7 := { stood := { row := semaPlaysRow, standIns := [], harness := (true, "3603e660136b1921cb9f742bc841b9ec612f393fc17fb7707fd169dd1f08532f"), looks := false }, kinds := [], alts := [], laidByText := true, laidKinds := [.data], laidTests := true, laidLooks := .later }
def SemaPlaysCardSaid : Prop := Claim7.holds Tryd.pinned (.plain (OpenSpec.ofChange semaPlaysSpec)) semaPlaysCard

/-- THE TIED CARD OF 'remontoirlaw13.GraphReaches'. -/
def graphReachesCard : Claim7 := { stood := { row := graphReachesRow, standIns := [], harness := (true, "3603e660136b1921cb9f742bc841b9ec612f393fc17fb7707fd169dd1f08532f"), looks := false }, kinds := [], alts := [], laidByText := true, laidKinds := [.data], laidTests := true, laidLooks := .later }
def GraphReachesCardSaid : Prop := Claim7.holds Tryd.pinned (.plain (OpenSpec.ofChange graphReachesSpec)) graphReachesCard

/-- THE TIED CARD OF 'remontoirlaw13.GraphPaths'. -/
def graphPathsCard : Claim7 := { stood := { row := graphPathsRow, standIns := [], harness := (true, "3603e660136b1921cb9f742bc841b9ec612f393fc17fb7707fd169dd1f08532f"), looks := false }, kinds := [], alts := [], laidByText := true, laidKinds := [.data], laidTests := true, laidLooks := .later }
def GraphPathsCardSaid : Prop := Claim7.holds Tryd.pinned (.plain (OpenSpec.ofChange graphPathsSpec)) graphPathsCard

/-- THE SECOND FORM's CARD OF 'remontoirlaw22.ReadyPlays'. -/
def readyPlaysUptoCard : Claim7 := { stood := { row := readyPlaysUptoRow, standIns := [], harness := (true, "3603e660136b1921cb9f742bc841b9ec612f393fc17fb7707fd169dd1f08532f"), looks := false }, kinds := [], alts := [], laidByText := true, laidKinds := [.data], laidTests := true, laidLooks := .later }
def ReadyPlaysUptoCardSaid : Prop := Claim7.holds Tryd.pinned (.plain (OpenSpec.upto readyPlaysSpec)) readyPlaysUptoCard

/-- THE SECOND FORM's CARD OF 'remontoirlaw22.ReadyDrains'. -/
def readyDrainsUptoCard : Claim7 := { stood := { row := readyDrainsUptoRow, standIns := [], harness := (true, "3603e660136b1921cb9f742bc841b9ec612f393fc17fb7707fd169dd1f08532f"), looks := false }, kinds := [], alts := [], laidByText := true, laidKinds := [.data], laidTests := true, laidLooks := .later }
def ReadyDrainsUptoCardSaid : Prop := Claim7.holds Tryd.pinned (.plain (OpenSpec.upto readyDrainsSpec)) readyDrainsUptoCard

/-- THE SECOND FORM's CARD OF 'remontoirlaw51.MboxOrder'. -/
def mboxOrderUptoCard : Claim7 := { stood := { row := mboxOrderUptoRow, standIns := [], harness := (true, "3603e660136b1921cb9f742bc841b9ec612f393fc17fb7707fd169dd1f08532f"), looks := false }, kinds := [], alts := [], laidByText := true, laidKinds := [.data], laidTests := true, laidLooks := .later }
def MboxOrderUptoCardSaid : Prop := Claim7.holds Tryd.pinned (.plain (OpenSpec.upto mboxOrderSpec)) mboxOrderUptoCard

/-- THE SECOND FORM's CARD OF 'remontoirlaw51.MboxPlays'. -/
def mboxPlaysUptoCard : Claim7 := { stood := { row := mboxPlaysUptoRow, standIns := [], harness := (true, "3603e660136b1921cb9f742bc841b9ec612f393fc17fb7707fd169dd1f08532f"), looks := false }, kinds := [], alts := [], laidByText := true, laidKinds := [.data], laidTests := true, laidLooks := .later }
def MboxPlaysUptoCardSaid : Prop := Claim7.holds Tryd.pinned (.plain (OpenSpec.upto mboxPlaysSpec)) mboxPlaysUptoCard

/-- THE SECOND FORM's CARD OF 'remontoirlaw52.SemaPlays'. -/
def semaPlaysUptoCard : Claim7 := { stood := { row := semaPlaysUptoRow, standIns := [], harness := (true, "3603e660136b1921cb9f742bc841b9ec612f393fc17fb7707fd169dd1f08532f"), looks := false }, kinds := [], alts := [], laidByText := true, laidKinds := [.data], laidTests := true, laidLooks := .later }
def SemaPlaysUptoCardSaid : Prop := Claim7.holds Tryd.pinned (.plain (OpenSpec.upto semaPlaysSpec)) semaPlaysUptoCard

/-- THE SECOND FORM's CARD OF 'remontoirlaw13.GraphReaches'. -/
def graphReachesUptoCard : Claim7 := { stood := { row := graphReachesUptoRow, standIns := [], harness := (true, "3603e660136b1921cb9f742bc841b9ec612f393fc17fb7707fd169dd1f08532f"), looks := false }, kinds := [], alts := [], laidByText := true, laidKinds := [.data], laidTests := true, laidLooks := .later }
def GraphReachesUptoCardSaid : Prop := Claim7.holds Tryd.pinned (.plain (OpenSpec.upto graphReachesSpec)) graphReachesUptoCard

/-- THE SECOND FORM's CARD OF 'remontoirlaw13.GraphPaths'. -/
def graphPathsUptoCard : Claim7 := { stood := { row := graphPathsUptoRow, standIns := [], harness := (true, "3603e660136b1921cb9f742bc841b9ec612f393fc17fb7707fd169dd1f08532f"), looks := false }, kinds := [], alts := [], laidByText := true, laidKinds := [.data], laidTests := true, laidLooks := .later }
def GraphPathsUptoCardSaid : Prop := Claim7.holds Tryd.pinned (.plain (OpenSpec.upto graphPathsSpec)) graphPathsUptoCard
end Rows
end Go.Proofs.YtdimcgedcndndaaDoor
