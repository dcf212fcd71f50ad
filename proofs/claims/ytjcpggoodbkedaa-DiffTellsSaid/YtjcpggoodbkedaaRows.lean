/-
  No cell of these rows narrows 'for every input' (looked for: loops, veiled, ifaces, maps, wideKeys, modest, calm, conditions, laid).
  DERIVED. THE GIVEN ROWS OF THIS SEAT. 7 by the template 'for every input the law returns true; each argument reads behind the call as it read before'; 0 by the template 'total and deterministic' (their statements: YtjcpggoodbkedaaTotals.lean).
  GIVEN WITH THE SEED: the statements are not yours to turn. If you find one false, say at which input.
  Laid BY PROGRAM, IN A SANDBOX (cutbox-rows.mjs): the forced cells as the released guide's own fill.sh prints them over the translation 907ba6e8d7b2010b… (all of the seat's roots in one cut). By AI agents, Wed Nov 11 2026. No macro, syntax, notation, axiom, sorry.
-/
import Derived.Test.YtjcpggoodbkedaaChecked
import GoSem.Claim
import GoSem.ClaimJoined
import GoSem.ClaimMapViews
import Derived.JoinedTies
import Derived.KernelRfl
namespace Go.Proofs.Ytjcpggoodbkedaa
/- THE CELL 'sum', in the pinned program and in every row, IS THE sha256 OF THE DUMP (.gsa) THAT YtjcpggoodbkedaaProg.lean LOADS. Nothing in Lean hashes anything: it is a label: what it is worth is what the hold of that sum in a sandbox is worth. -/
noncomputable def Try.pinned : Pinned := { name := "ytjcpggoodbkedaa", sum := "907ba6e8d7b2010b4f32f27023ca08ff59b877ad4660e5d7f849138894a9bde3", checked := Try.checked }
namespace Rows
def none {H : Type} : Left H := { results := [], args := [] }

/-- 'remontoirlaw40.StatAdds': WHATEVER THE INPUT: true; the input reads as it did. -/
def statAddsSpec : ChangeSpec := { name := "statAdds", fn := fun _ => fun
  | [d1, d2, d3] => { results := [.lit (.bool true)], args := [d1, d2, d3] }
  | _ => none }
def statAddsRow : OpenClaim := { program := "ytjcpggoodbkedaa", sum := "907ba6e8d7b2010b4f32f27023ca08ff59b877ad4660e5d7f849138894a9bde3", func := "remontoir/remontoirlaw40.StatAdds", spec := "statAdds", unfollowed := true, recurses := true, apart := false }
def StatAddsSaid : Prop := statAddsRow.holds Try.pinned (OpenSpec.ofChange statAddsSpec)

/-- ITS FALSE NEIGHBOUR: 'it returns false'. Refute it at one input. -/
def statAddsWrong : ChangeSpec := { name := "statAdds", fn := fun _ => fun
  | [d1, d2, d3] => { results := [.lit (.bool false)], args := [d1, d2, d3] }
  | _ => none }
def StatAddsWrongFalsely : Prop := statAddsRow.holds Try.pinned (OpenSpec.ofChange statAddsWrong)

/-- 'remontoirlaw40.StatTells': WHATEVER THE INPUT: true; the input reads as it did. -/
def statTellsSpec : ChangeSpec := { name := "statTells", fn := fun _ => fun
  | [d] => { results := [.lit (.bool true)], args := [d] }
  | _ => none }
def statTellsRow : OpenClaim := { program := "ytjcpggoodbkedaa", sum := "907ba6e8d7b2010b4f32f27023ca08ff59b877ad4660e5d7f849138894a9bde3", func := "remontoir/remontoirlaw40.StatTells", spec := "statTells", unfollowed := true, recurses := true, apart := false }
def StatTellsSaid : Prop := statTellsRow.holds Try.pinned (OpenSpec.ofChange statTellsSpec)

/-- ITS FALSE NEIGHBOUR: 'it returns false'. Refute it at one input. -/
def statTellsWrong : ChangeSpec := { name := "statTells", fn := fun _ => fun
  | [d] => { results := [.lit (.bool false)], args := [d] }
  | _ => none }
def StatTellsWrongFalsely : Prop := statTellsRow.holds Try.pinned (OpenSpec.ofChange statTellsWrong)

/-- 'remontoirlaw31.TraceLines': WHATEVER THE INPUT: true; the input reads as it did. -/
def traceLinesSpec : ChangeSpec := { name := "traceLines", fn := fun _ => fun
  | [d1, d2] => { results := [.lit (.bool true)], args := [d1, d2] }
  | _ => none }
def traceLinesRow : OpenClaim := { program := "ytjcpggoodbkedaa", sum := "907ba6e8d7b2010b4f32f27023ca08ff59b877ad4660e5d7f849138894a9bde3", func := "remontoir/remontoirlaw31.TraceLines", spec := "traceLines", unfollowed := true, recurses := true, apart := false }
def TraceLinesSaid : Prop := traceLinesRow.holds Try.pinned (OpenSpec.ofChange traceLinesSpec)

/-- ITS FALSE NEIGHBOUR: 'it returns false'. Refute it at one input. -/
def traceLinesWrong : ChangeSpec := { name := "traceLines", fn := fun _ => fun
  | [d1, d2] => { results := [.lit (.bool false)], args := [d1, d2] }
  | _ => none }
def TraceLinesWrongFalsely : Prop := traceLinesRow.holds Try.pinned (OpenSpec.ofChange traceLinesWrong)

/-- 'remontoirlaw31.TraceLists': WHATEVER THE INPUT: true; the input reads as it did. -/
def traceListsSpec : ChangeSpec := { name := "traceLists", fn := fun _ => fun
  | [d1, d2, d3] => { results := [.lit (.bool true)], args := [d1, d2, d3] }
  | _ => none }
def traceListsRow : OpenClaim := { program := "ytjcpggoodbkedaa", sum := "907ba6e8d7b2010b4f32f27023ca08ff59b877ad4660e5d7f849138894a9bde3", func := "remontoir/remontoirlaw31.TraceLists", spec := "traceLists", unfollowed := true, recurses := true, apart := false }
def TraceListsSaid : Prop := traceListsRow.holds Try.pinned (OpenSpec.ofChange traceListsSpec)

/-- ITS FALSE NEIGHBOUR: 'it returns false'. Refute it at one input. -/
def traceListsWrong : ChangeSpec := { name := "traceLists", fn := fun _ => fun
  | [d1, d2, d3] => { results := [.lit (.bool false)], args := [d1, d2, d3] }
  | _ => none }
def TraceListsWrongFalsely : Prop := traceListsRow.holds Try.pinned (OpenSpec.ofChange traceListsWrong)

/-- 'remontoirlaw42.DiffTurns': WHATEVER THE INPUT: true; the input reads as it did. -/
def diffTurnsSpec : ChangeSpec := { name := "diffTurns", fn := fun _ => fun
  | [d1, d2] => { results := [.lit (.bool true)], args := [d1, d2] }
  | _ => none }
def diffTurnsRow : OpenClaim := { program := "ytjcpggoodbkedaa", sum := "907ba6e8d7b2010b4f32f27023ca08ff59b877ad4660e5d7f849138894a9bde3", func := "remontoir/remontoirlaw42.DiffTurns", spec := "diffTurns", unfollowed := true, recurses := true, apart := false }
def DiffTurnsSaid : Prop := diffTurnsRow.holds Try.pinned (OpenSpec.ofChange diffTurnsSpec)

/-- ITS FALSE NEIGHBOUR: 'it returns false'. Refute it at one input. -/
def diffTurnsWrong : ChangeSpec := { name := "diffTurns", fn := fun _ => fun
  | [d1, d2] => { results := [.lit (.bool false)], args := [d1, d2] }
  | _ => none }
def DiffTurnsWrongFalsely : Prop := diffTurnsRow.holds Try.pinned (OpenSpec.ofChange diffTurnsWrong)

/-- 'remontoirlaw42.DiffLines': WHATEVER THE INPUT: true; the input reads as it did. -/
def diffLinesSpec : ChangeSpec := { name := "diffLines", fn := fun _ => fun
  | [d] => { results := [.lit (.bool true)], args := [d] }
  | _ => none }
def diffLinesRow : OpenClaim := { program := "ytjcpggoodbkedaa", sum := "907ba6e8d7b2010b4f32f27023ca08ff59b877ad4660e5d7f849138894a9bde3", func := "remontoir/remontoirlaw42.DiffLines", spec := "diffLines", unfollowed := true, recurses := true, apart := false }
def DiffLinesSaid : Prop := diffLinesRow.holds Try.pinned (OpenSpec.ofChange diffLinesSpec)

/-- ITS FALSE NEIGHBOUR: 'it returns false'. Refute it at one input. -/
def diffLinesWrong : ChangeSpec := { name := "diffLines", fn := fun _ => fun
  | [d] => { results := [.lit (.bool false)], args := [d] }
  | _ => none }
def DiffLinesWrongFalsely : Prop := diffLinesRow.holds Try.pinned (OpenSpec.ofChange diffLinesWrong)

/-- 'remontoirlaw42.DiffTells': WHATEVER THE INPUT: true; the input reads as it did. -/
def diffTellsSpec : ChangeSpec := { name := "diffTells", fn := fun _ => fun
  | [d1, d2] => { results := [.lit (.bool true)], args := [d1, d2] }
  | _ => none }
def diffTellsRow : OpenClaim := { program := "ytjcpggoodbkedaa", sum := "907ba6e8d7b2010b4f32f27023ca08ff59b877ad4660e5d7f849138894a9bde3", func := "remontoir/remontoirlaw42.DiffTells", spec := "diffTells", unfollowed := true, recurses := true, apart := false }
def DiffTellsSaid : Prop := diffTellsRow.holds Try.pinned (OpenSpec.ofChange diffTellsSpec)

/-- ITS FALSE NEIGHBOUR: 'it returns false'. Refute it at one input. -/
def diffTellsWrong : ChangeSpec := { name := "diffTells", fn := fun _ => fun
  | [d1, d2] => { results := [.lit (.bool false)], args := [d1, d2] }
  | _ => none }
def DiffTellsWrongFalsely : Prop := diffTellsRow.holds Try.pinned (OpenSpec.ofChange diffTellsWrong)

/- THE SECOND FORM. 'bulk': how many values and letters a reading holds, each counted each time it is reached (what is shared counts as often as it is met; a slice's spare places count too). A statement '..UptoSaid' is the law's where the arguments, and the package variables that the reading takes, are together of bulk at most 1048576: NARROWER than '..Said'. Prove '..Said' where nothing that the law and all that it calls make is longer than what came in: it says more and counts as full. Else prove '..UptoSaid'. A law counts once. -/
mutual
def uptoBulk {H : Type} : DataW H → Nat
  | .lit (.string bytes) => bytes.length + 1
  | .lit _ => 1
  | .nil => 1
  | .ptr d => uptoBulk d + 1
  | .slice elems spare => uptoBulkAll elems + uptoBulkAll spare + 1
  | .agg parts => uptoBulkAll parts + 1
  | .iface _ d => uptoBulk d + 1
  | .map entries => uptoBulkEntries entries + 1
  | .held _ => 1
def uptoBulkAll {H : Type} : List (DataW H) → Nat
  | [] => 0
  | d :: r => uptoBulk d + uptoBulkAll r
def uptoBulkEntries {H : Type} : List (Lit × DataW H) → Nat
  | [] => 0
  | x :: r => uptoBulkEntry x + uptoBulkEntries r
def uptoBulkEntry {H : Type} : Lit × DataW H → Nat
  | (.string bytes, d) => bytes.length + uptoBulk d + 1
  | (_, d) => uptoBulk d + 1
 end
def uptoSmall : (H : Type) → List (DataW H) → Bool := fun _ ds => decide (uptoBulkAll ds ≤ 1048576)
def OpenSpec.upto (s : _root_.Go.ChangeSpec) : _root_.Go.OpenSpec := { _root_.Go.OpenSpec.ofChange s with cond := some uptoSmall }

/-- 'remontoirlaw40.StatAdds', WHERE WHAT IT READS IS OF BULK AT MOST 1048576: true; the input reads as it did. -/
def statAddsUptoRow : OpenClaim := { program := "ytjcpggoodbkedaa", sum := "907ba6e8d7b2010b4f32f27023ca08ff59b877ad4660e5d7f849138894a9bde3", func := "remontoir/remontoirlaw40.StatAdds", spec := "statAdds", unfollowed := true, recurses := true, apart := false, narrowed := true }
def StatAddsUptoSaid : Prop := statAddsUptoRow.holds Try.pinned (OpenSpec.upto statAddsSpec)

/-- 'remontoirlaw40.StatTells', WHERE WHAT IT READS IS OF BULK AT MOST 1048576: true; the input reads as it did. -/
def statTellsUptoRow : OpenClaim := { program := "ytjcpggoodbkedaa", sum := "907ba6e8d7b2010b4f32f27023ca08ff59b877ad4660e5d7f849138894a9bde3", func := "remontoir/remontoirlaw40.StatTells", spec := "statTells", unfollowed := true, recurses := true, apart := false, narrowed := true }
def StatTellsUptoSaid : Prop := statTellsUptoRow.holds Try.pinned (OpenSpec.upto statTellsSpec)

/-- 'remontoirlaw31.TraceLines', WHERE WHAT IT READS IS OF BULK AT MOST 1048576: true; the input reads as it did. -/
def traceLinesUptoRow : OpenClaim := { program := "ytjcpggoodbkedaa", sum := "907ba6e8d7b2010b4f32f27023ca08ff59b877ad4660e5d7f849138894a9bde3", func := "remontoir/remontoirlaw31.TraceLines", spec := "traceLines", unfollowed := true, recurses := true, apart := false, narrowed := true }
def TraceLinesUptoSaid : Prop := traceLinesUptoRow.holds Try.pinned (OpenSpec.upto traceLinesSpec)

/-- 'remontoirlaw31.TraceLists', WHERE WHAT IT READS IS OF BULK AT MOST 1048576: true; the input reads as it did. -/
def traceListsUptoRow : OpenClaim := { program := "ytjcpggoodbkedaa", sum := "907ba6e8d7b2010b4f32f27023ca08ff59b877ad4660e5d7f849138894a9bde3", func := "remontoir/remontoirlaw31.TraceLists", spec := "traceLists", unfollowed := true, recurses := true, apart := false, narrowed := true }
def TraceListsUptoSaid : Prop := traceListsUptoRow.holds Try.pinned (OpenSpec.upto traceListsSpec)

/-- 'remontoirlaw42.DiffTurns', WHERE WHAT IT READS IS OF BULK AT MOST 1048576: true; the input reads as it did. -/
def diffTurnsUptoRow : OpenClaim := { program := "ytjcpggoodbkedaa", sum := "907ba6e8d7b2010b4f32f27023ca08ff59b877ad4660e5d7f849138894a9bde3", func := "remontoir/remontoirlaw42.DiffTurns", spec := "diffTurns", unfollowed := true, recurses := true, apart := false, narrowed := true }
def DiffTurnsUptoSaid : Prop := diffTurnsUptoRow.holds Try.pinned (OpenSpec.upto diffTurnsSpec)

/-- 'remontoirlaw42.DiffLines', WHERE WHAT IT READS IS OF BULK AT MOST 1048576: true; the input reads as it did. -/
def diffLinesUptoRow : OpenClaim := { program := "ytjcpggoodbkedaa", sum := "907ba6e8d7b2010b4f32f27023ca08ff59b877ad4660e5d7f849138894a9bde3", func := "remontoir/remontoirlaw42.DiffLines", spec := "diffLines", unfollowed := true, recurses := true, apart := false, narrowed := true }
def DiffLinesUptoSaid : Prop := diffLinesUptoRow.holds Try.pinned (OpenSpec.upto diffLinesSpec)

/-- 'remontoirlaw42.DiffTells', WHERE WHAT IT READS IS OF BULK AT MOST 1048576: true; the input reads as it did. -/
def diffTellsUptoRow : OpenClaim := { program := "ytjcpggoodbkedaa", sum := "907ba6e8d7b2010b4f32f27023ca08ff59b877ad4660e5d7f849138894a9bde3", func := "remontoir/remontoirlaw42.DiffTells", spec := "diffTells", unfollowed := true, recurses := true, apart := false, narrowed := true }
def DiffTellsUptoSaid : Prop := diffTellsUptoRow.holds Try.pinned (OpenSpec.upto diffTellsSpec)

end Rows
end Go.Proofs.Ytjcpggoodbkedaa
