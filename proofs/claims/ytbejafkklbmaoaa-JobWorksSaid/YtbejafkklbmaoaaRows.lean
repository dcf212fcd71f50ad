/-
  No cell of these rows narrows 'for every input' (looked for: loops, veiled, ifaces, maps, wideKeys, modest, calm, conditions, laid).
  DERIVED. THE GIVEN ROWS OF THIS SEAT. 5 by the template 'for every input the law returns true; each argument reads behind the call as it read before'; 0 by the template 'total and deterministic' (their statements: YtbejafkklbmaoaaTotals.lean).
  GIVEN WITH THE SEED: the statements are not yours to turn. If you find one false, say at which input.
  Laid BY PROGRAM, IN A SANDBOX (cutbox-rows.mjs): the forced cells as the released guide's own fill.sh prints them over the translation 52c7bbe1e5256b37… (all of the seat's roots in one cut). By AI agents, Wed Nov 11 2026. No macro, syntax, notation, axiom, sorry.
-/
import Derived.Test.YtbejafkklbmaoaaChecked
import GoSem.Claim
import GoSem.ClaimJoined
import GoSem.ClaimMapViews
import Derived.JoinedTies
import Derived.KernelRfl
namespace Go.Proofs.Ytbejafkklbmaoaa
/- THE CELL 'sum', in the pinned program and in every row, IS THE sha256 OF THE DUMP (.gsa) THAT YtbejafkklbmaoaaProg.lean LOADS. Nothing in Lean hashes anything: it is a label: what it is worth is what the hold of that sum in a sandbox is worth. -/
noncomputable def Try.pinned : Pinned := { name := "ytbejafkklbmaoaa", sum := "52c7bbe1e5256b37796c4fcdcc56e528759fe5277c94bee1e38c3a0685367642", checked := Try.checked }
namespace Rows
def none {H : Type} : Left H := { results := [], args := [] }

/-- 'remontoirlaw14.ClassEdges': WHATEVER THE INPUT: true; the input reads as it did. -/
def classEdgesSpec : ChangeSpec := { name := "classEdges", fn := fun _ => fun
  | [d1, d2] => { results := [.lit (.bool true)], args := [d1, d2] }
  | _ => none }
def classEdgesRow : OpenClaim := { program := "ytbejafkklbmaoaa", sum := "52c7bbe1e5256b37796c4fcdcc56e528759fe5277c94bee1e38c3a0685367642", func := "remontoir/remontoirlaw14.ClassEdges", spec := "classEdges", apart := false }
def ClassEdgesSaid : Prop := classEdgesRow.holds Try.pinned (OpenSpec.ofChange classEdgesSpec)

/-- ITS FALSE NEIGHBOUR: 'it returns false'. Refute it at one input. -/
def classEdgesWrong : ChangeSpec := { name := "classEdges", fn := fun _ => fun
  | [d1, d2] => { results := [.lit (.bool false)], args := [d1, d2] }
  | _ => none }
def ClassEdgesWrongFalsely : Prop := classEdgesRow.holds Try.pinned (OpenSpec.ofChange classEdgesWrong)

/-- 'remontoirlaw14.ClassTells': WHATEVER THE INPUT: true; the input reads as it did. -/
def classTellsSpec : ChangeSpec := { name := "classTells", fn := fun _ => fun
  | [d1, d2, d3] => { results := [.lit (.bool true)], args := [d1, d2, d3] }
  | _ => none }
def classTellsRow : OpenClaim := { program := "ytbejafkklbmaoaa", sum := "52c7bbe1e5256b37796c4fcdcc56e528759fe5277c94bee1e38c3a0685367642", func := "remontoir/remontoirlaw14.ClassTells", spec := "classTells", apart := false }
def ClassTellsSaid : Prop := classTellsRow.holds Try.pinned (OpenSpec.ofChange classTellsSpec)

/-- ITS FALSE NEIGHBOUR: 'it returns false'. Refute it at one input. -/
def classTellsWrong : ChangeSpec := { name := "classTells", fn := fun _ => fun
  | [d1, d2, d3] => { results := [.lit (.bool false)], args := [d1, d2, d3] }
  | _ => none }
def ClassTellsWrongFalsely : Prop := classTellsRow.holds Try.pinned (OpenSpec.ofChange classTellsWrong)

/-- 'remontoirlaw24.GuardApart': WHATEVER THE INPUT: true; the input reads as it did. -/
def guardApartSpec : ChangeSpec := { name := "guardApart", fn := fun _ => fun
  | [d1, d2, d3] => { results := [.lit (.bool true)], args := [d1, d2, d3] }
  | _ => none }
def guardApartRow : OpenClaim := { program := "ytbejafkklbmaoaa", sum := "52c7bbe1e5256b37796c4fcdcc56e528759fe5277c94bee1e38c3a0685367642", func := "remontoir/remontoirlaw24.GuardApart", spec := "guardApart", apart := false }
def GuardApartSaid : Prop := guardApartRow.holds Try.pinned (OpenSpec.ofChange guardApartSpec)

/-- ITS FALSE NEIGHBOUR: 'it returns false'. Refute it at one input. -/
def guardApartWrong : ChangeSpec := { name := "guardApart", fn := fun _ => fun
  | [d1, d2, d3] => { results := [.lit (.bool false)], args := [d1, d2, d3] }
  | _ => none }
def GuardApartWrongFalsely : Prop := guardApartRow.holds Try.pinned (OpenSpec.ofChange guardApartWrong)

/-- 'remontoirlaw25.JobCuts': WHATEVER THE INPUT: true; the input reads as it did. -/
def jobCutsSpec : ChangeSpec := { name := "jobCuts", fn := fun _ => fun
  | [d1, d2, d3] => { results := [.lit (.bool true)], args := [d1, d2, d3] }
  | _ => none }
def jobCutsRow : OpenClaim := { program := "ytbejafkklbmaoaa", sum := "52c7bbe1e5256b37796c4fcdcc56e528759fe5277c94bee1e38c3a0685367642", func := "remontoir/remontoirlaw25.JobCuts", spec := "jobCuts", unfollowed := true, recurses := true, apart := false }
def JobCutsSaid : Prop := jobCutsRow.holds Try.pinned (OpenSpec.ofChange jobCutsSpec)

/-- ITS FALSE NEIGHBOUR: 'it returns false'. Refute it at one input. -/
def jobCutsWrong : ChangeSpec := { name := "jobCuts", fn := fun _ => fun
  | [d1, d2, d3] => { results := [.lit (.bool false)], args := [d1, d2, d3] }
  | _ => none }
def JobCutsWrongFalsely : Prop := jobCutsRow.holds Try.pinned (OpenSpec.ofChange jobCutsWrong)

/-- 'remontoirlaw25.JobWorks': WHATEVER THE INPUT: true; the input reads as it did. -/
def jobWorksSpec : ChangeSpec := { name := "jobWorks", fn := fun _ => fun
  | [d1, d2] => { results := [.lit (.bool true)], args := [d1, d2] }
  | _ => none }
def jobWorksRow : OpenClaim := { program := "ytbejafkklbmaoaa", sum := "52c7bbe1e5256b37796c4fcdcc56e528759fe5277c94bee1e38c3a0685367642", func := "remontoir/remontoirlaw25.JobWorks", spec := "jobWorks", unfollowed := true, recurses := true, apart := false }
def JobWorksSaid : Prop := jobWorksRow.holds Try.pinned (OpenSpec.ofChange jobWorksSpec)

/-- ITS FALSE NEIGHBOUR: 'it returns false'. Refute it at one input. -/
def jobWorksWrong : ChangeSpec := { name := "jobWorks", fn := fun _ => fun
  | [d1, d2] => { results := [.lit (.bool false)], args := [d1, d2] }
  | _ => none }
def JobWorksWrongFalsely : Prop := jobWorksRow.holds Try.pinned (OpenSpec.ofChange jobWorksWrong)

/- THE SECOND FORM. 'bulk': how many values and letters a reading holds, each counted each time it is reached (what is shared counts as often as it is met; a slice's spare places count too). A statement '..UptoSaid' is the law's where the arguments, and the package variables that the reading takes, are together of bulk at most 1048576: NARROWER than '..Said'. Prove '..Said' where nothing that the law and all that it calls make is longer than what came in: it says more and counts as full. Else prove '..UptoSaid'. A law counts once. -/
mutual
def uptoBulk {H : Type} : DataW H → Nat
  | .lit (.string bytes) => bytes.length + 1
  | .lit _ => 1
  | .nil => 1
  | .ptr d => uptoBulk d + 1
  | .slice elems spare => uptoBulkAll elems + uptoBulkAll spare + 1
  | .agg parts => uptoBulkAll parts + 1
  | .iface _ d => uptoBulk d + 1
  | .map entries => uptoBulkEntries entries + 1
  | .held _ => 1
def uptoBulkAll {H : Type} : List (DataW H) → Nat
  | [] => 0
  | d :: r => uptoBulk d + uptoBulkAll r
def uptoBulkEntries {H : Type} : List (Lit × DataW H) → Nat
  | [] => 0
  | x :: r => uptoBulkEntry x + uptoBulkEntries r
def uptoBulkEntry {H : Type} : Lit × DataW H → Nat
  | (.string bytes, d) => bytes.length + uptoBulk d + 1
  | (_, d) => uptoBulk d + 1
 end
def uptoSmall : (H : Type) → List (DataW H) → Bool := fun _ ds => decide (uptoBulkAll ds ≤ 1048576)
def OpenSpec.upto (s : _root_.Go.ChangeSpec) : _root_.Go.OpenSpec := { _root_.Go.OpenSpec.ofChange s with cond := some uptoSmall }

/-- 'remontoirlaw14.ClassEdges', WHERE WHAT IT READS IS OF BULK AT MOST 1048576: true; the input reads as it did. -/
def classEdgesUptoRow : OpenClaim := { program := "ytbejafkklbmaoaa", sum := "52c7bbe1e5256b37796c4fcdcc56e528759fe5277c94bee1e38c3a0685367642", func := "remontoir/remontoirlaw14.ClassEdges", spec := "classEdges", apart := false, narrowed := true }
def ClassEdgesUptoSaid : Prop := classEdgesUptoRow.holds Try.pinned (OpenSpec.upto classEdgesSpec)

/-- 'remontoirlaw14.ClassTells', WHERE WHAT IT READS IS OF BULK AT MOST 1048576: true; the input reads as it did. -/
def classTellsUptoRow : OpenClaim := { program := "ytbejafkklbmaoaa", sum := "52c7bbe1e5256b37796c4fcdcc56e528759fe5277c94bee1e38c3a0685367642", func := "remontoir/remontoirlaw14.ClassTells", spec := "classTells", apart := false, narrowed := true }
def ClassTellsUptoSaid : Prop := classTellsUptoRow.holds Try.pinned (OpenSpec.upto classTellsSpec)

/-- 'remontoirlaw24.GuardApart', WHERE WHAT IT READS IS OF BULK AT MOST 1048576: true; the input reads as it did. -/
def guardApartUptoRow : OpenClaim := { program := "ytbejafkklbmaoaa", sum := "52c7bbe1e5256b37796c4fcdcc56e528759fe5277c94bee1e38c3a0685367642", func := "remontoir/remontoirlaw24.GuardApart", spec := "guardApart", apart := false, narrowed := true }
def GuardApartUptoSaid : Prop := guardApartUptoRow.holds Try.pinned (OpenSpec.upto guardApartSpec)

/-- 'remontoirlaw25.JobCuts', WHERE WHAT IT READS IS OF BULK AT MOST 1048576: true; the input reads as it did. -/
def jobCutsUptoRow : OpenClaim := { program := "ytbejafkklbmaoaa", sum := "52c7bbe1e5256b37796c4fcdcc56e528759fe5277c94bee1e38c3a0685367642", func := "remontoir/remontoirlaw25.JobCuts", spec := "jobCuts", unfollowed := true, recurses := true, apart := false, narrowed := true }
def JobCutsUptoSaid : Prop := jobCutsUptoRow.holds Try.pinned (OpenSpec.upto jobCutsSpec)

/-- 'remontoirlaw25.JobWorks', WHERE WHAT IT READS IS OF BULK AT MOST 1048576: true; the input reads as it did. -/
def jobWorksUptoRow : OpenClaim := { program := "ytbejafkklbmaoaa", sum := "52c7bbe1e5256b37796c4fcdcc56e528759fe5277c94bee1e38c3a0685367642", func := "remontoir/remontoirlaw25.JobWorks", spec := "jobWorks", unfollowed := true, recurses := true, apart := false, narrowed := true }
def JobWorksUptoSaid : Prop := jobWorksUptoRow.holds Try.pinned (OpenSpec.upto jobWorksSpec)

end Rows
end Go.Proofs.Ytbejafkklbmaoaa
