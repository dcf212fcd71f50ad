/-
  DERIVED. GIVEN WITH THE SEED: THE CARDS: each row of YtbejafkklbmaoaaDoorRows.lean that lists a variable, with what it lists TIED to the program's text (the seventh form; the later family's looks); each row that meets fmt, with fmt's text TOLD by the authors' own Lean function (tested against real Go, not proved from fmt's source: count such statements apart). THE CARD IS WHAT COUNTS. Prove the row's statement (the work); the ties are given (YtbejafkklbmaoaaDoorTie.lean); close each card by the builder's one call (the guide's Derived/Test/ToyasCard.lean, 'card_holds'). Laid BY PROGRAM, IN A SANDBOX (cutbox-door.mjs). By AI agents, Wed Nov 11 2026. No macro, syntax, notation, axiom, sorry.
-/
import Derived.Test.YtbejafkklbmaoaaDoorRows
import GoSem.ClaimSeven
namespace Go.Proofs.YtbejafkklbmaoaaDoor
namespace Rows

/-- THE TIED CARD OF 'remontoirlaw24.GuardPlays'. -/
def guardPlaysCard : Claim7 := { stood := { row := guardPlaysRow, standIns := [], harness := (true, "749dd30f299e23a3846615b5a5e5308fa8ce9201209afd1b1b9583cbf0a970f8"), looks := false }, kinds := [], alts := [], laidByText := true, laidKinds := [.data], laidTests := true, laidLooks := .later }
def GuardPlaysCardSaid : Prop := Claim7.holds Tryd.pinned (.plain (OpenSpec.ofChange guardPlaysSpec)) guardPlaysCard

/-- THE TIED CARD OF 'remontoirlaw03.MaskSets'. -/
def maskSetsCard : Claim7 := { stood := { row := maskSetsRow, standIns := [], harness := (true, "749dd30f299e23a3846615b5a5e5308fa8ce9201209afd1b1b9583cbf0a970f8"), looks := false }, kinds := [], alts := [], laidByText := true, laidKinds := [.data], laidTests := true, laidLooks := .later }
def MaskSetsCardSaid : Prop := Claim7.holds Tryd.pinned (.plain (OpenSpec.ofChange maskSetsSpec)) maskSetsCard

/-- THE TIED CARD OF 'remontoirlaw03.MaskCuts'. -/
def maskCutsCard : Claim7 := { stood := { row := maskCutsRow, standIns := [], harness := (true, "749dd30f299e23a3846615b5a5e5308fa8ce9201209afd1b1b9583cbf0a970f8"), looks := false }, kinds := [], alts := [], laidByText := true, laidKinds := [.data], laidTests := true, laidLooks := .later }
def MaskCutsCardSaid : Prop := Claim7.holds Tryd.pinned (.plain (OpenSpec.ofChange maskCutsSpec)) maskCutsCard

/-- THE TIED CARD OF 'remontoirlaw03.MaskGoes'. -/
def maskGoesCard : Claim7 := { stood := { row := maskGoesRow, standIns := [], harness := (true, "749dd30f299e23a3846615b5a5e5308fa8ce9201209afd1b1b9583cbf0a970f8"), looks := false }, kinds := [], alts := [], laidByText := true, laidKinds := [.data], laidTests := true, laidLooks := .later }
def MaskGoesCardSaid : Prop := Claim7.holds Tryd.pinned (.plain (OpenSpec.ofChange maskGoesSpec)) maskGoesCard

/-- THE TIED CARD OF 'remontoirlaw50.PoolPlays'. -/
def poolPlaysCard : Claim7 := { stood := { row := poolPlaysRow, standIns := [], harness := (true, "749dd30f299e23a3846615b5a5e5308fa8ce9201209afd1b1b9583cbf0a970f8"), looks := false }, kinds := [], alts := [], laidByText := true, laidKinds := [.data], laidTests := true, laidLooks := .later }
def PoolPlaysCardSaid : Prop := Claim7.holds Tryd.pinned (.plain (OpenSpec.ofChange poolPlaysSpec)) poolPlaysCard

/-- THE TIED CARD OF 'remontoirlaw15.CeilTells'. -/
def ceilTellsCard : Claim7 := { stood := { row := ceilTellsRow, standIns := [], harness := (true, "749dd30f299e23a3846615b5a5e5308fa8ce9201209afd1b1b9583cbf0a970f8"), looks := false }, kinds := [], alts := [], laidByText := true, laidKinds := [.data], laidTests := true, laidLooks := .later }
def CeilTellsCardSaid : Prop := Claim7.holds Tryd.pinned (.plain (OpenSpec.ofChange ceilTellsSpec)) ceilTellsCard

/-- THE TIED CARD OF 'remontoirlaw15.CeilJoins'. -/
def ceilJoinsCard : Claim7 := { stood := { row := ceilJoinsRow, standIns := [], harness := (true, "749dd30f299e23a3846615b5a5e5308fa8ce9201209afd1b1b9583cbf0a970f8"), looks := false }, kinds := [], alts := [], laidByText := true, laidKinds := [.data], laidTests := true, laidLooks := .later }
def CeilJoinsCardSaid : Prop := Claim7.holds Tryd.pinned (.plain (OpenSpec.ofChange ceilJoinsSpec)) ceilJoinsCard

/-- THE SECOND FORM's CARD OF 'remontoirlaw24.GuardPlays'. -/
def guardPlaysUptoCard : Claim7 := { stood := { row := guardPlaysUptoRow, standIns := [], harness := (true, "749dd30f299e23a3846615b5a5e5308fa8ce9201209afd1b1b9583cbf0a970f8"), looks := false }, kinds := [], alts := [], laidByText := true, laidKinds := [.data], laidTests := true, laidLooks := .later }
def GuardPlaysUptoCardSaid : Prop := Claim7.holds Tryd.pinned (.plain (OpenSpec.upto guardPlaysSpec)) guardPlaysUptoCard

/-- THE SECOND FORM's CARD OF 'remontoirlaw03.MaskSets'. -/
def maskSetsUptoCard : Claim7 := { stood := { row := maskSetsUptoRow, standIns := [], harness := (true, "749dd30f299e23a3846615b5a5e5308fa8ce9201209afd1b1b9583cbf0a970f8"), looks := false }, kinds := [], alts := [], laidByText := true, laidKinds := [.data], laidTests := true, laidLooks := .later }
def MaskSetsUptoCardSaid : Prop := Claim7.holds Tryd.pinned (.plain (OpenSpec.upto maskSetsSpec)) maskSetsUptoCard

/-- THE SECOND FORM's CARD OF 'remontoirlaw03.MaskCuts'. -/
def maskCutsUptoCard : Claim7 := { stood := { row := maskCutsUptoRow, standIns := [], harness := (true, "749dd30f299e23a3846615b5a5e5308fa8ce9201209afd1b1b9583cbf0a970f8"), looks := false }, kinds := [], alts := [], laidByText := true, laidKinds := [.data], laidTests := true, laidLooks := .later }
def MaskCutsUptoCardSaid : Prop := Claim7.holds Tryd.pinned (.plain (OpenSpec.upto maskCutsSpec)) maskCutsUptoCard

/-- THE SECOND FORM's CARD OF 'remontoirlaw03.MaskGoes'. -/
def maskGoesUptoCard : Claim7 := { stood := { row := maskGoesUptoRow, standIns := [], harness := (true, "749dd30f299e23a3846615b5a5e5308fa8ce9201209afd1b1b9583cbf0a970f8"), looks := false }, kinds := [], alts := [], laidByText := true, laidKinds := [.data], laidTests := true, laidLooks := .later }
def MaskGoesUptoCardSaid : Prop := Claim7.holds Tryd.pinned (.plain (OpenSpec.upto maskGoesSpec)) maskGoesUptoCard

/-- THE SECOND FORM's CARD OF 'remontoirlaw50.PoolPlays'. -/
def poolPlaysUptoCard : Claim7 := { stood := { row := poolPlaysUptoRow, standIns := [], harness := (true, "749dd30f299e23a3846615b5a5e5308fa8ce9201209afd1b1b9583cbf0a970f8"), looks := false }, kinds := [], alts := [], laidByText := true, laidKinds := [.data], laidTests := true, laidLooks := .later }
def PoolPlaysUptoCardSaid : Prop := Claim7.holds Tryd.pinned (.plain (OpenSpec.upto poolPlaysSpec)) poolPlaysUptoCard

/-- THE SECOND FORM's CARD OF 'remontoirlaw15.CeilTells'. -/
def ceilTellsUptoCard : Claim7 := { stood := { row := ceilTellsUptoRow, standIns := [], harness := (true, "749dd30f299e23a3846615b5a5e5308fa8ce9201209afd1b1b9583cbf0a970f8"), looks := false }, kinds := [], alts := [], laidByText := true, laidKinds := [.data], laidTests := true, laidLooks := .later }
def CeilTellsUptoCardSaid : Prop := Claim7.holds Tryd.pinned (.plain (OpenSpec.upto ceilTellsSpec)) ceilTellsUptoCard

/-- THE SECOND FORM's CARD OF 'remontoirlaw15.CeilJoins'. -/
def ceilJoinsUptoCard : Claim7 := { stood := { row := ceilJoinsUptoRow, standIns := [], harness := (true, "749dd30f299e23a3846615b5a5e5308fa8ce9201209afd1b1b9583cbf0a970f8"), looks := false }, kinds := [], alts := [], laidByText := true, laidKinds := [.data], laidTests := true, laidLooks := .later }
def CeilJoinsUptoCardSaid : Prop := Claim7.holds Tryd.pinned (.plain (OpenSpec.upto ceilJoinsSpec)) ceilJoinsUptoCard
end Rows
end Go.Proofs.YtbejafkklbmaoaaDoor
