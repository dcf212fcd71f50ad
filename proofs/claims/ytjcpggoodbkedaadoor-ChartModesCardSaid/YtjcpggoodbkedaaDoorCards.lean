/-
  DERIVED. GIVEN WITH THE SEED: THE CARDS: each row of YtjcpggoodbkedaaDoorRows.lean that lists a variable, with what it lists TIED to the program's text (the seventh form; the later family's looks); each row that meets fmt, with fmt's text TOLD by the authors' own Lean function (tested against real Go, not proved from fmt's source: count such statements apart). THE CARD IS WHAT COUNTS. Prove the row's statement (the work); the ties are given (YtjcpggoodbkedaaDoorTie.lean); close each card by the builder's one call (the guide's Derived/Test/ToyasCard.lean, 'card_holds'). Laid BY PROGRAM, IN A SANDBOX (cutbox-door.mjs). By AI agents, Wed Nov 11 2026. No macro, syntax, notation, axiom, sorry.
-/
import Derived.Test.YtjcpggoodbkedaaDoorRows
import GoSem.ClaimSeven
namespace Go.Proofs.YtjcpggoodbkedaaDoor
namespace Rows

/-- THE TIED CARD OF 'remontoirlaw41.ChartDraws'. -/
def chartDrawsCard : Claim7 := { stood := { row := chartDrawsRow, standIns := [], harness := (true, "852cdcec411acaec40e44d1cb702775f90eb5b6d08a741b07eab67960abb3190"), looks := false }, kinds := [], alts := [], laidByText := true, laidKinds := [.data], laidTests := true, laidLooks := .later }
def ChartDrawsCardSaid : Prop := Claim7.holds Tryd.pinned (.plain (OpenSpec.ofChange chartDrawsSpec)) chartDrawsCard

/-- THE TIED CARD OF 'remontoirlaw41.ChartModes'. -/
def chartModesCard : Claim7 := { stood := { row := chartModesRow, standIns := [], harness := (true, "852cdcec411acaec40e44d1cb702775f90eb5b6d08a741b07eab67960abb3190"), looks := false }, kinds := [], alts := [], laidByText := true, laidKinds := [.data], laidTests := true, laidLooks := .later }
def ChartModesCardSaid : Prop := Claim7.holds Tryd.pinned (.plain (OpenSpec.ofChange chartModesSpec)) chartModesCard

/-- THE SECOND FORM's CARD OF 'remontoirlaw41.ChartDraws'. -/
def chartDrawsUptoCard : Claim7 := { stood := { row := chartDrawsUptoRow, standIns := [], harness := (true, "852cdcec411acaec40e44d1cb702775f90eb5b6d08a741b07eab67960abb3190"), looks := false }, kinds := [], alts := [], laidByText := true, laidKinds := [.data], laidTests := true, laidLooks := .later }
def ChartDrawsUptoCardSaid : Prop := Claim7.holds Tryd.pinned (.plain (OpenSpec.upto chartDrawsSpec)) chartDrawsUptoCard

/-- THE SECOND FORM's CARD OF 'remontoirlaw41.ChartModes'. -/
def chartModesUptoCard : Claim7 := { stood := { row := chartModesUptoRow, standIns := [], harness := (true, "852cdcec411acaec40e44d1cb702775f90eb5b6d08a741b07eab67960abb3190"), looks := false }, kinds := [], alts := [], laidByText := true, laidKinds := [.data], laidTests := true, laidLooks := .later }
def ChartModesUptoCardSaid : Prop := Claim7.holds Tryd.pinned (.plain (OpenSpec.upto chartModesSpec)) chartModesUptoCard
end Rows
end Go.Proofs.YtjcpggoodbkedaaDoor
