/-
  NARROWER THAN 'FOR EVERY INPUT', by the rows' own cells (each row's printed sentence says how): SchedWaits: laid · SchedAlone: laid · SchedPlays: laid · SimulBounds: laid · SimulTells: laid · SimulIdle: laid.
  DERIVED. THE GIVEN ROWS OF THIS SEAT. 6 by the template 'for every input the law returns true; each argument reads behind the call as it read before'; 0 by the template 'total and deterministic' (their statements: YtkkdchgnknpceaaDoorTotals.lean).
  GIVEN WITH THE SEED: the statements are not yours to turn. If you find one false, say at which input.
  Laid BY PROGRAM, IN A SANDBOX (cutbox-rows.mjs): the forced cells as the released guide's own fill.sh prints them over the translation acef2da69ad08fe0… (all of the seat's roots in one cut). By AI agents, Wed Nov 11 2026. No macro, syntax, notation, axiom, sorry.
-/
import Derived.Test.YtkkdchgnknpceaaDoorChecked
import GoSem.Claim
import GoSem.ClaimJoined
import GoSem.ClaimMapViews
import Derived.JoinedTies
import Derived.KernelRfl
namespace Go.Proofs.YtkkdchgnknpceaaDoor
/- THE CELL 'sum', in the pinned program and in every row, IS THE sha256 OF THE DUMP (.gsa) THAT YtkkdchgnknpceaaDoorProg.lean LOADS. Nothing in Lean hashes anything: it is a label: what it is worth is what the hold of that sum in a sandbox is worth. -/
noncomputable def Tryd.pinned : Pinned := { name := "ytkkdchgnknpceaadoor", sum := "acef2da69ad08fe05c20512cb05b0a424c747ead5cc8f1c07297707b5fe60d19", checked := Tryd.checked }
namespace Rows
def none {H : Type} : Left H := { results := [], args := [] }

/- WHAT THE LISTED PACKAGE-LEVEL VARIABLES READ AS WHEN THE CALL BEGINS. Each datum BY PROGRAM (the guide's laid-datum.mjs) off the statement by which the dump's own 'gosem.cut.vars' lays the variable. In a bare row this is a premise. The card (YtkkdchgnknpceaaDoorCards.lean) ties it to the program's text. -/
def laid_math_bits_deBruijn32tab {H : Type} : DataW H := .agg [.lit (.int .u8 0), .lit (.int .u8 1), .lit (.int .u8 28), .lit (.int .u8 2), .lit (.int .u8 29), .lit (.int .u8 14), .lit (.int .u8 24), .lit (.int .u8 3), .lit (.int .u8 30), .lit (.int .u8 22), .lit (.int .u8 20), .lit (.int .u8 15), .lit (.int .u8 25), .lit (.int .u8 17), .lit (.int .u8 4), .lit (.int .u8 8), .lit (.int .u8 31), .lit (.int .u8 27), .lit (.int .u8 13), .lit (.int .u8 23), .lit (.int .u8 21), .lit (.int .u8 19), .lit (.int .u8 16), .lit (.int .u8 7), .lit (.int .u8 26), .lit (.int .u8 12), .lit (.int .u8 18), .lit (.int .u8 6), .lit (.int .u8 11), .lit (.int .u8 5), .lit (.int .u8 10), .lit (.int .u8 9)]

/-- 'remontoirlaw26.SchedWaits': WHATEVER THE INPUT: true; the input reads as it did. -/
def schedWaitsSpec : ChangeSpec := { name := "schedWaits", fn := fun _ => fun
  | [d1, d2] => { results := [.lit (.bool true)], args := [d1, d2] }
  | _ => none }
def schedWaitsRow : OpenClaim := { program := "ytkkdchgnknpceaadoor", sum := "acef2da69ad08fe05c20512cb05b0a424c747ead5cc8f1c07297707b5fe60d19", func := "remontoir/remontoirlaw26.SchedWaits", spec := "schedWaits", unfollowed := true, recurses := true, named := ["math/bits.deBruijn32tab"], apart := false, laid := [("math/bits.deBruijn32tab", laid_math_bits_deBruijn32tab)] }
def SchedWaitsSaid : Prop := schedWaitsRow.holds Tryd.pinned (OpenSpec.ofChange schedWaitsSpec)

/-- ITS FALSE NEIGHBOUR: 'it returns false'. Refute it at one input. -/
def schedWaitsWrong : ChangeSpec := { name := "schedWaits", fn := fun _ => fun
  | [d1, d2] => { results := [.lit (.bool false)], args := [d1, d2] }
  | _ => none }
def SchedWaitsWrongFalsely : Prop := schedWaitsRow.holds Tryd.pinned (OpenSpec.ofChange schedWaitsWrong)

/-- 'remontoirlaw26.SchedAlone': WHATEVER THE INPUT: true; the input reads as it did. -/
def schedAloneSpec : ChangeSpec := { name := "schedAlone", fn := fun _ => fun
  | [d1, d2] => { results := [.lit (.bool true)], args := [d1, d2] }
  | _ => none }
def schedAloneRow : OpenClaim := { program := "ytkkdchgnknpceaadoor", sum := "acef2da69ad08fe05c20512cb05b0a424c747ead5cc8f1c07297707b5fe60d19", func := "remontoir/remontoirlaw26.SchedAlone", spec := "schedAlone", unfollowed := true, recurses := true, named := ["math/bits.deBruijn32tab"], apart := false, laid := [("math/bits.deBruijn32tab", laid_math_bits_deBruijn32tab)] }
def SchedAloneSaid : Prop := schedAloneRow.holds Tryd.pinned (OpenSpec.ofChange schedAloneSpec)

/-- ITS FALSE NEIGHBOUR: 'it returns false'. Refute it at one input. -/
def schedAloneWrong : ChangeSpec := { name := "schedAlone", fn := fun _ => fun
  | [d1, d2] => { results := [.lit (.bool false)], args := [d1, d2] }
  | _ => none }
def SchedAloneWrongFalsely : Prop := schedAloneRow.holds Tryd.pinned (OpenSpec.ofChange schedAloneWrong)

/-- 'remontoirlaw26.SchedPlays': WHATEVER THE INPUT: true; the input reads as it did. -/
def schedPlaysSpec : ChangeSpec := { name := "schedPlays", fn := fun _ => fun
  | [d1, d2] => { results := [.lit (.bool true)], args := [d1, d2] }
  | _ => none }
def schedPlaysRow : OpenClaim := { program := "ytkkdchgnknpceaadoor", sum := "acef2da69ad08fe05c20512cb05b0a424c747ead5cc8f1c07297707b5fe60d19", func := "remontoir/remontoirlaw26.SchedPlays", spec := "schedPlays", unfollowed := true, recurses := true, named := ["math/bits.deBruijn32tab"], apart := false, laid := [("math/bits.deBruijn32tab", laid_math_bits_deBruijn32tab)] }
def SchedPlaysSaid : Prop := schedPlaysRow.holds Tryd.pinned (OpenSpec.ofChange schedPlaysSpec)

/-- ITS FALSE NEIGHBOUR: 'it returns false'. Refute it at one input. -/
def schedPlaysWrong : ChangeSpec := { name := "schedPlays", fn := fun _ => fun
  | [d1, d2] => { results := [.lit (.bool false)], args := [d1, d2] }
  | _ => none }
def SchedPlaysWrongFalsely : Prop := schedPlaysRow.holds Tryd.pinned (OpenSpec.ofChange schedPlaysWrong)

/-- 'remontoirlaw45.SimulBounds': WHATEVER THE INPUT: true; the input reads as it did. -/
def simulBoundsSpec : ChangeSpec := { name := "simulBounds", fn := fun _ => fun
  | [d1, d2, d3] => { results := [.lit (.bool true)], args := [d1, d2, d3] }
  | _ => none }
def simulBoundsRow : OpenClaim := { program := "ytkkdchgnknpceaadoor", sum := "acef2da69ad08fe05c20512cb05b0a424c747ead5cc8f1c07297707b5fe60d19", func := "remontoir/remontoirlaw45.SimulBounds", spec := "simulBounds", unfollowed := true, recurses := true, named := ["math/bits.deBruijn32tab"], apart := false, laid := [("math/bits.deBruijn32tab", laid_math_bits_deBruijn32tab)] }
def SimulBoundsSaid : Prop := simulBoundsRow.holds Tryd.pinned (OpenSpec.ofChange simulBoundsSpec)

/-- ITS FALSE NEIGHBOUR: 'it returns false'. Refute it at one input. -/
def simulBoundsWrong : ChangeSpec := { name := "simulBounds", fn := fun _ => fun
  | [d1, d2, d3] => { results := [.lit (.bool false)], args := [d1, d2, d3] }
  | _ => none }
def SimulBoundsWrongFalsely : Prop := simulBoundsRow.holds Tryd.pinned (OpenSpec.ofChange simulBoundsWrong)

/-- 'remontoirlaw45.SimulTells': WHATEVER THE INPUT: true; the input reads as it did. -/
def simulTellsSpec : ChangeSpec := { name := "simulTells", fn := fun _ => fun
  | [d1, d2, d3] => { results := [.lit (.bool true)], args := [d1, d2, d3] }
  | _ => none }
def simulTellsRow : OpenClaim := { program := "ytkkdchgnknpceaadoor", sum := "acef2da69ad08fe05c20512cb05b0a424c747ead5cc8f1c07297707b5fe60d19", func := "remontoir/remontoirlaw45.SimulTells", spec := "simulTells", unfollowed := true, recurses := true, named := ["math/bits.deBruijn32tab"], apart := false, laid := [("math/bits.deBruijn32tab", laid_math_bits_deBruijn32tab)] }
def SimulTellsSaid : Prop := simulTellsRow.holds Tryd.pinned (OpenSpec.ofChange simulTellsSpec)

/-- ITS FALSE NEIGHBOUR: 'it returns false'. Refute it at one input. -/
def simulTellsWrong : ChangeSpec := { name := "simulTells", fn := fun _ => fun
  | [d1, d2, d3] => { results := [.lit (.bool false)], args := [d1, d2, d3] }
  | _ => none }
def SimulTellsWrongFalsely : Prop := simulTellsRow.holds Tryd.pinned (OpenSpec.ofChange simulTellsWrong)

/-- 'remontoirlaw45.SimulIdle': WHATEVER THE INPUT: true; the input reads as it did. -/
def simulIdleSpec : ChangeSpec := { name := "simulIdle", fn := fun _ => fun
  | [d1, d2, d3] => { results := [.lit (.bool true)], args := [d1, d2, d3] }
  | _ => none }
def simulIdleRow : OpenClaim := { program := "ytkkdchgnknpceaadoor", sum := "acef2da69ad08fe05c20512cb05b0a424c747ead5cc8f1c07297707b5fe60d19", func := "remontoir/remontoirlaw45.SimulIdle", spec := "simulIdle", unfollowed := true, recurses := true, named := ["math/bits.deBruijn32tab"], apart := false, laid := [("math/bits.deBruijn32tab", laid_math_bits_deBruijn32tab)] }
def SimulIdleSaid : Prop := simulIdleRow.holds Tryd.pinned (OpenSpec.ofChange simulIdleSpec)

/-- ITS FALSE NEIGHBOUR: 'it returns false'. Refute it at one input. -/
def simulIdleWrong : ChangeSpec := { name := "simulIdle", fn := fun _ => fun
  | [d1, d2, d3] => { results := [.lit (.bool false)], args := [d1, d2, d3] }
  | _ => none }
def SimulIdleWrongFalsely : Prop := simulIdleRow.holds Tryd.pinned (OpenSpec.ofChange simulIdleWrong)

/- THE SECOND FORM. 'bulk': how many values and letters a reading holds, each counted each time it is reached (what is shared counts as often as it is met; a slice's spare places count too). A statement '..UptoSaid' is the law's where the arguments, and the package variables that the reading takes, are together of bulk at most 1048576: NARROWER than '..Said'. Prove '..Said' where nothing that the law and all that it calls make is longer than what came in: it says more and counts as full. Else prove '..UptoSaid'. A law counts once. -/
mutual
def uptoBulk {H : Type} : DataW H → Nat
  | .lit (.string bytes) => bytes.length + 1
  | .lit _ => 1
  | .nil => 1
  | .ptr d => uptoBulk d + 1
  | .slice elems spare => uptoBulkAll elems + uptoBulkAll spare + 1
  | .agg parts => uptoBulkAll parts + 1
  | .iface _ d => uptoBulk d + 1
  | .map entries => uptoBulkEntries entries + 1
  | .held _ => 1
def uptoBulkAll {H : Type} : List (DataW H) → Nat
  | [] => 0
  | d :: r => uptoBulk d + uptoBulkAll r
def uptoBulkEntries {H : Type} : List (Lit × DataW H) → Nat
  | [] => 0
  | x :: r => uptoBulkEntry x + uptoBulkEntries r
def uptoBulkEntry {H : Type} : Lit × DataW H → Nat
  | (.string bytes, d) => bytes.length + uptoBulk d + 1
  | (_, d) => uptoBulk d + 1
 end
def uptoSmall : (H : Type) → List (DataW H) → Bool := fun _ ds => decide (uptoBulkAll ds ≤ 1048576)
def OpenSpec.upto (s : _root_.Go.ChangeSpec) : _root_.Go.OpenSpec := { _root_.Go.OpenSpec.ofChange s with cond := some uptoSmall }

/-- 'remontoirlaw26.SchedWaits', WHERE WHAT IT READS IS OF BULK AT MOST 1048576: true; the input reads as it did. -/
def schedWaitsUptoRow : OpenClaim := { program := "ytkkdchgnknpceaadoor", sum := "acef2da69ad08fe05c20512cb05b0a424c747ead5cc8f1c07297707b5fe60d19", func := "remontoir/remontoirlaw26.SchedWaits", spec := "schedWaits", unfollowed := true, recurses := true, named := ["math/bits.deBruijn32tab"], apart := false, laid := [("math/bits.deBruijn32tab", laid_math_bits_deBruijn32tab)], narrowed := true }
def SchedWaitsUptoSaid : Prop := schedWaitsUptoRow.holds Tryd.pinned (OpenSpec.upto schedWaitsSpec)

/-- 'remontoirlaw26.SchedAlone', WHERE WHAT IT READS IS OF BULK AT MOST 1048576: true; the input reads as it did. -/
def schedAloneUptoRow : OpenClaim := { program := "ytkkdchgnknpceaadoor", sum := "acef2da69ad08fe05c20512cb05b0a424c747ead5cc8f1c07297707b5fe60d19", func := "remontoir/remontoirlaw26.SchedAlone", spec := "schedAlone", unfollowed := true, recurses := true, named := ["math/bits.deBruijn32tab"], apart := false, laid := [("math/bits.deBruijn32tab", laid_math_bits_deBruijn32tab)], narrowed := true }
def SchedAloneUptoSaid : Prop := schedAloneUptoRow.holds Tryd.pinned (OpenSpec.upto schedAloneSpec)

/-- 'remontoirlaw26.SchedPlays', WHERE WHAT IT READS IS OF BULK AT MOST 1048576: true; the input reads as it did. -/
def schedPlaysUptoRow : OpenClaim := { program := "ytkkdchgnknpceaadoor", sum := "acef2da69ad08fe05c20512cb05b0a424c747ead5cc8f1c07297707b5fe60d19", func := "remontoir/remontoirlaw26.SchedPlays", spec := "schedPlays", unfollowed := true, recurses := true, named := ["math/bits.deBruijn32tab"], apart := false, laid := [("math/bits.deBruijn32tab", laid_math_bits_deBruijn32tab)], narrowed := true }
def SchedPlaysUptoSaid : Prop := schedPlaysUptoRow.holds Tryd.pinned (OpenSpec.upto schedPlaysSpec)

/-- 'remontoirlaw45.SimulBounds', WHERE WHAT IT READS IS OF BULK AT MOST 1048576: true; the input reads as it did. -/
def simulBoundsUptoRow : OpenClaim := { program := "ytkkdchgnknpceaadoor", sum := "acef2da69ad08fe05c20512cb05b0a424c747ead5cc8f1c07297707b5fe60d19", func := "remontoir/remontoirlaw45.SimulBounds", spec := "simulBounds", unfollowed := true, recurses := true, named := ["math/bits.deBruijn32tab"], apart := false, laid := [("math/bits.deBruijn32tab", laid_math_bits_deBruijn32tab)], narrowed := true }
def SimulBoundsUptoSaid : Prop := simulBoundsUptoRow.holds Tryd.pinned (OpenSpec.upto simulBoundsSpec)

/-- 'remontoirlaw45.SimulTells', WHERE WHAT IT READS IS OF BULK AT MOST 1048576: true; the input reads as it did. -/
def simulTellsUptoRow : OpenClaim := { program := "ytkkdchgnknpceaadoor", sum := "acef2da69ad08fe05c20512cb05b0a424c747ead5cc8f1c07297707b5fe60d19", func := "remontoir/remontoirlaw45.SimulTells", spec := "simulTells", unfollowed := true, recurses := true, named := ["math/bits.deBruijn32tab"], apart := false, laid := [("math/bits.deBruijn32tab", laid_math_bits_deBruijn32tab)], narrowed := true }
def SimulTellsUptoSaid : Prop := simulTellsUptoRow.holds Tryd.pinned (OpenSpec.upto simulTellsSpec)

/-- 'remontoirlaw45.SimulIdle', WHERE WHAT IT READS IS OF BULK AT MOST 1048576: true; the input reads as it did. -/
def simulIdleUptoRow : OpenClaim := { program := "ytkkdchgnknpceaadoor", sum := "acef2da69ad08fe05c20512cb05b0a424c747ead5cc8f1c07297707b5fe60d19", func := "remontoir/remontoirlaw45.SimulIdle", spec := "simulIdle", unfollowed := true, recurses := true, named := ["math/bits.deBruijn32tab"], apart := false, laid := [("math/bits.deBruijn32tab", laid_math_bits_deBruijn32tab)], narrowed := true }
def SimulIdleUptoSaid : Prop := simulIdleUptoRow.holds Tryd.pinned (OpenSpec.upto simulIdleSpec)

end Rows
end Go.Proofs.YtkkdchgnknpceaaDoor
