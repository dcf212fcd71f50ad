/-
  DERIVED. GIVEN WITH THE SEED: THE CARDS: each row of YtkkdchgnknpceaaDoorRows.lean that lists a variable, with what it lists TIED to the program's text (the seventh form; the later family's looks); each row that meets fmt, with fmt's text TOLD by the authors' own Lean function (tested against real Go, not proved from fmt's source: count such statements apart). THE CARD IS WHAT COUNTS. Prove the row's statement (the work); the ties are given (YtkkdchgnknpceaaDoorTie.lean); close each card by the builder's one call (the guide's Derived/Test/ToyasCard.lean, 'card_holds'). Laid BY PROGRAM, IN A SANDBOX (cutbox-door.mjs). By AI agents, Wed Nov 11 2026. No macro, syntax, notation, axiom, sorry.
-/
import Derived.Test.YtkkdchgnknpceaaDoorRows
import GoSem.ClaimSeven
namespace Go.Proofs.YtkkdchgnknpceaaDoor
namespace Rows

/-- THE TIED CARD OF 'remontoirlaw26.SchedWaits'. -/
def schedWaitsCard : Claim7 := { stood := { row := schedWaitsRow, standIns := [], harness := (true, "44ef1e1e002b38ac2d72adeff89b3beb5f1b36ff56efcca0884e0dc2dba73968"), looks := false }, kinds := [], alts := [], laidByText := true, laidKinds := [.data], laidTests := true, laidLooks := .later }
def SchedWaitsCardSaid : Prop := Claim7.holds Tryd.pinned (.plain (OpenSpec.ofChange schedWaitsSpec)) schedWaitsCard

/-- THE TIED CARD OF 'remontoirlaw26.SchedAlone'. -/
def schedAloneCard : Claim7 := { stood := { row := schedAloneRow, standIns := [], harness := (true, "44ef1e1e002b38ac2d72adeff89b3beb5f1b36ff56efcca0884e0dc2dba73968"), looks := false }, kinds := [], alts := [], laidByText := true, laidKinds := [.data], laidTests := true, laidLooks := .later }
def SchedAloneCardSaid : Prop := Claim7.holds Tryd.pinned (.plain (OpenSpec.ofChange schedAloneSpec)) schedAloneCard

/-- THE TIED CARD OF 'remontoirlaw26.SchedPlays'. -/
def schedPlaysCard : Claim7 := { stood := { row := schedPlaysRow, standIns := [], harness := (true, "44ef1e1e002b38ac2d72adeff89b3beb5f1b36ff56efcca0884e0dc2dba73968"), looks := false }, kinds := [], alts := [], laidByText := true, laidKinds := [.data], laidTests := true, laidLooks := .later }
def SchedPlaysCardSaid : Prop := Claim7.holds Tryd.pinned (.plain (OpenSpec.ofChange schedPlaysSpec)) schedPlaysCard

/-- THE TIED CARD OF 'remontoirlaw45.SimulBounds'. -/
def simulBoundsCard : Claim7 := { stood := { row := simulBoundsRow, standIns := [], harness := (true, "44ef1e1e002b38ac2d72adeff89b3beb5f1b36ff56efcca0884e0dc2dba73968"), looks := false }, kinds := [], alts := [], laidByText := true, laidKinds := [.data], laidTests := true, laidLooks := .later }
def SimulBoundsCardSaid : Prop := Claim7.holds Tryd.pinned (.plain (OpenSpec.ofChange simulBoundsSpec)) simulBoundsCard

/-- THE TIED CARD OF 'remontoirlaw45.SimulTells'. -/
def simulTellsCard : Claim7 := { stood := { row := simulTellsRow, standIns := [], harness := (true, "44ef1e1e002b38ac2d72adeff89b3beb5f1b36ff56efcca0884e0dc2dba73968"), looks := false }, kinds := [], alts := [], laidByText := true, laidKinds := [.data], laidTests := true, laidLooks := .later }
def SimulTellsCardSaid : Prop := Claim7.holds Tryd.pinned (.plain (OpenSpec.ofChange simulTellsSpec)) simulTellsCard

/-- THE TIED CARD OF 'remontoirlaw45.SimulIdle'. -/
def simulIdleCard : Claim7 := { stood := { row := simulIdleRow, standIns := [], harness := (true, "44ef1e1e002b38ac2d72adeff89b3beb5f1b36ff56efcca0884e0dc2dba73968"), looks := false }, kinds := [], alts := [], laidByText := true, laidKinds := [.data], laidTests := true, laidLooks := .later }
def SimulIdleCardSaid : Prop := Claim7.holds Tryd.pinned (.plain (OpenSpec.ofChange simulIdleSpec)) simulIdleCard

/-- THE SECOND FORM's CARD OF 'remontoirlaw26.SchedWaits'. -/
def schedWaitsUptoCard : Claim7 := { stood := { row := schedWaitsUptoRow, standIns := [], harness := (true, "44ef1e1e002b38ac2d72adeff89b3beb5f1b36ff56efcca0884e0dc2dba73968"), looks := false }, kinds := [], alts := [], laidByText := true, laidKinds := [.data], laidTests := true, laidLooks := .later }
def SchedWaitsUptoCardSaid : Prop := Claim7.holds Tryd.pinned (.plain (OpenSpec.upto schedWaitsSpec)) schedWaitsUptoCard

/-- THE SECOND FORM's CARD OF 'remontoirlaw26.SchedAlone'. -/
def schedAloneUptoCard : Claim7 := { stood := { row := schedAloneUptoRow, standIns := [], harness := (true, "44ef1e1e002b38ac2d72adeff89b3beb5f1b36ff56efcca0884e0dc2dba73968"), looks := false }, kinds := [], alts := [], laidByText := true, laidKinds := [.data], laidTests := true, laidLooks := .later }
def SchedAloneUptoCardSaid : Prop := Claim7.holds Tryd.pinned (.plain (OpenSpec.upto schedAloneSpec)) schedAloneUptoCard

/-- THE SECOND FORM's CARD OF 'remontoirlaw26.SchedPlays'. -/
def schedPlaysUptoCard : Claim7 := { stood := { row := schedPlaysUptoRow, standIns := [], harness := (true, "44ef1e1e002b38ac2d72adeff89b3beb5f1b36ff56efcca0884e0dc2dba73968"), looks := false }, kinds := [], alts := [], laidByText := true, laidKinds := [.data], laidTests := true, laidLooks := .later }
def SchedPlaysUptoCardSaid : Prop := Claim7.holds Tryd.pinned (.plain (OpenSpec.upto schedPlaysSpec)) schedPlaysUptoCard

/-- THE SECOND FORM's CARD OF 'remontoirlaw45.SimulBounds'. -/
def simulBoundsUptoCard : Claim7 := { stood := { row := simulBoundsUptoRow, standIns := [], harness := (true, "44ef1e1e002b38ac2d72adeff89b3beb5f1b36ff56efcca0884e0dc2dba73968"), looks := false }, kinds := [], alts := [], laidByText := true, laidKinds := [.data], laidTests := true, laidLooks := .later }
def SimulBoundsUptoCardSaid : Prop := Claim7.holds Tryd.pinned (.plain (OpenSpec.upto simulBoundsSpec)) simulBoundsUptoCard

/-- THE SECOND FORM's CARD OF 'remontoirlaw45.SimulTells'. -/
def simulTellsUptoCard : Claim7 := { stood := { row := simulTellsUptoRow, standIns := [], harness := (true, "44ef1e1e002b38ac2d72adeff89b3beb5f1b36ff56efcca0884e0dc2dba73968"), looks := false }, kinds := [], alts := [], laidByText := true, laidKinds := [.data], laidTests := true, laidLooks := .later }
def SimulTellsUptoCardSaid : Prop := Claim7.holds Tryd.pinned (.plain (OpenSpec.upto simulTellsSpec)) simulTellsUptoCard

/-- THE SECOND FORM's CARD OF 'remontoirlaw45.SimulIdle'. -/
def simulIdleUptoCard : Claim7 := { stood := { row := simulIdleUptoRow, standIns := [], harness := (true, "44ef1e1e002b38ac2d72adeff89b3beb5f1b36ff56efcca0884e0dc2dba73968"), looks := false }, kinds := [], alts := [], laidByText := true, laidKinds := [.data], laidTests := true, laidLooks := .later }
def SimulIdleUptoCardSaid : Prop := Claim7.holds Tryd.pinned (.plain (OpenSpec.upto simulIdleSpec)) simulIdleUptoCard
end Rows
end Go.Proofs.YtkkdchgnknpceaaDoor
