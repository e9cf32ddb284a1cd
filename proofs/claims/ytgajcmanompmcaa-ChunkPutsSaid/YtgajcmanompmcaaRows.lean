/-
  No cell of these rows narrows 'for every input' (looked for: loops, veiled, ifaces, maps, wideKeys, modest, calm, conditions, laid).
  DERIVED. THE GIVEN ROWS OF THIS SEAT. 8 by the template 'for every input the law returns true; each argument reads behind the call as it read before'; 0 by the template 'total and deterministic' (their statements: YtgajcmanompmcaaTotals.lean).
  GIVEN WITH THE SEED: the statements are not yours to turn. If you find one false, say at which input.
  Laid BY PROGRAM, IN A SANDBOX (cutbox-rows.mjs): the forced cells as the released guide's own fill.sh prints them over the translation 33dfc2c09736f90a… (all of the seat's roots in one cut). By AI agents, Wed Nov 11 2026. No macro, syntax, notation, axiom, sorry.
-/
import Derived.Test.YtgajcmanompmcaaChecked
import GoSem.Claim
import GoSem.ClaimJoined
import GoSem.ClaimMapViews
import Derived.JoinedTies
import Derived.KernelRfl
namespace Go.Proofs.Ytgajcmanompmcaa
/- THE CELL 'sum', in the pinned program and in every row, IS THE sha256 OF THE DUMP (.gsa) THAT YtgajcmanompmcaaProg.lean LOADS. Nothing in Lean hashes anything: it is a label: what it is worth is what the hold of that sum in a sandbox is worth. -/
noncomputable def Try.pinned : Pinned := { name := "ytgajcmanompmcaa", sum := "33dfc2c09736f90a15e1f502f6648efa5587773a4c3722efd61fa7cb6dac3d3f", checked := Try.checked }
namespace Rows
def none {H : Type} : Left H := { results := [], args := [] }

/-- 'crosswaylaw36.TraceBytes': WHATEVER THE INPUT: true; the input reads as it did. -/
def traceBytesSpec : ChangeSpec := { name := "traceBytes", fn := fun _ => fun
  | [d] => { results := [.lit (.bool true)], args := [d] }
  | _ => none }
def traceBytesRow : OpenClaim := { program := "ytgajcmanompmcaa", sum := "33dfc2c09736f90a15e1f502f6648efa5587773a4c3722efd61fa7cb6dac3d3f", func := "crossway/crosswaylaw36.TraceBytes", spec := "traceBytes", unfollowed := true, recurses := true, apart := false }
def TraceBytesSaid : Prop := traceBytesRow.holds Try.pinned (OpenSpec.ofChange traceBytesSpec)

/-- ITS FALSE NEIGHBOUR: 'it returns false'. Refute it at one input. -/
def traceBytesWrong : ChangeSpec := { name := "traceBytes", fn := fun _ => fun
  | [d] => { results := [.lit (.bool false)], args := [d] }
  | _ => none }
def TraceBytesWrongFalsely : Prop := traceBytesRow.holds Try.pinned (OpenSpec.ofChange traceBytesWrong)

/-- 'crosswaylaw36.TraceReads': WHATEVER THE INPUT: true; the input reads as it did. -/
def traceReadsSpec : ChangeSpec := { name := "traceReads", fn := fun _ => fun
  | [d] => { results := [.lit (.bool true)], args := [d] }
  | _ => none }
def traceReadsRow : OpenClaim := { program := "ytgajcmanompmcaa", sum := "33dfc2c09736f90a15e1f502f6648efa5587773a4c3722efd61fa7cb6dac3d3f", func := "crossway/crosswaylaw36.TraceReads", spec := "traceReads", unfollowed := true, recurses := true, apart := false }
def TraceReadsSaid : Prop := traceReadsRow.holds Try.pinned (OpenSpec.ofChange traceReadsSpec)

/-- ITS FALSE NEIGHBOUR: 'it returns false'. Refute it at one input. -/
def traceReadsWrong : ChangeSpec := { name := "traceReads", fn := fun _ => fun
  | [d] => { results := [.lit (.bool false)], args := [d] }
  | _ => none }
def TraceReadsWrongFalsely : Prop := traceReadsRow.holds Try.pinned (OpenSpec.ofChange traceReadsWrong)

/-- 'crosswaylaw28.ReconfParams': WHATEVER THE INPUT: true; the input reads as it did. -/
def reconfParamsSpec : ChangeSpec := { name := "reconfParams", fn := fun _ => fun
  | [d1, d2, d3] => { results := [.lit (.bool true)], args := [d1, d2, d3] }
  | _ => none }
def reconfParamsRow : OpenClaim := { program := "ytgajcmanompmcaa", sum := "33dfc2c09736f90a15e1f502f6648efa5587773a4c3722efd61fa7cb6dac3d3f", func := "crossway/crosswaylaw28.ReconfParams", spec := "reconfParams", unfollowed := true, recurses := true, apart := false }
def ReconfParamsSaid : Prop := reconfParamsRow.holds Try.pinned (OpenSpec.ofChange reconfParamsSpec)

/-- ITS FALSE NEIGHBOUR: 'it returns false'. Refute it at one input. -/
def reconfParamsWrong : ChangeSpec := { name := "reconfParams", fn := fun _ => fun
  | [d1, d2, d3] => { results := [.lit (.bool false)], args := [d1, d2, d3] }
  | _ => none }
def ReconfParamsWrongFalsely : Prop := reconfParamsRow.holds Try.pinned (OpenSpec.ofChange reconfParamsWrong)

/-- 'crosswaylaw28.ReconfAnswers': WHATEVER THE INPUT: true; the input reads as it did. -/
def reconfAnswersSpec : ChangeSpec := { name := "reconfAnswers", fn := fun _ => fun
  | [d1, d2, d3] => { results := [.lit (.bool true)], args := [d1, d2, d3] }
  | _ => none }
def reconfAnswersRow : OpenClaim := { program := "ytgajcmanompmcaa", sum := "33dfc2c09736f90a15e1f502f6648efa5587773a4c3722efd61fa7cb6dac3d3f", func := "crossway/crosswaylaw28.ReconfAnswers", spec := "reconfAnswers", unfollowed := true, recurses := true, apart := false }
def ReconfAnswersSaid : Prop := reconfAnswersRow.holds Try.pinned (OpenSpec.ofChange reconfAnswersSpec)

/-- ITS FALSE NEIGHBOUR: 'it returns false'. Refute it at one input. -/
def reconfAnswersWrong : ChangeSpec := { name := "reconfAnswers", fn := fun _ => fun
  | [d1, d2, d3] => { results := [.lit (.bool false)], args := [d1, d2, d3] }
  | _ => none }
def ReconfAnswersWrongFalsely : Prop := reconfAnswersRow.holds Try.pinned (OpenSpec.ofChange reconfAnswersWrong)

/-- 'crosswaylaw28.ReconfAsks': WHATEVER THE INPUT: true; the input reads as it did. -/
def reconfAsksSpec : ChangeSpec := { name := "reconfAsks", fn := fun _ => fun
  | [d1, d2] => { results := [.lit (.bool true)], args := [d1, d2] }
  | _ => none }
def reconfAsksRow : OpenClaim := { program := "ytgajcmanompmcaa", sum := "33dfc2c09736f90a15e1f502f6648efa5587773a4c3722efd61fa7cb6dac3d3f", func := "crossway/crosswaylaw28.ReconfAsks", spec := "reconfAsks", unfollowed := true, recurses := true, apart := false }
def ReconfAsksSaid : Prop := reconfAsksRow.holds Try.pinned (OpenSpec.ofChange reconfAsksSpec)

/-- ITS FALSE NEIGHBOUR: 'it returns false'. Refute it at one input. -/
def reconfAsksWrong : ChangeSpec := { name := "reconfAsks", fn := fun _ => fun
  | [d1, d2] => { results := [.lit (.bool false)], args := [d1, d2] }
  | _ => none }
def ReconfAsksWrongFalsely : Prop := reconfAsksRow.holds Try.pinned (OpenSpec.ofChange reconfAsksWrong)

/-- 'crosswaylaw06.ChunkKnown': WHATEVER THE INPUT: true; the input reads as it did. -/
def chunkKnownSpec : ChangeSpec := { name := "chunkKnown", fn := fun _ => fun
  | [d] => { results := [.lit (.bool true)], args := [d] }
  | _ => none }
def chunkKnownRow : OpenClaim := { program := "ytgajcmanompmcaa", sum := "33dfc2c09736f90a15e1f502f6648efa5587773a4c3722efd61fa7cb6dac3d3f", func := "crossway/crosswaylaw06.ChunkKnown", spec := "chunkKnown", apart := false }
def ChunkKnownSaid : Prop := chunkKnownRow.holds Try.pinned (OpenSpec.ofChange chunkKnownSpec)

/-- ITS FALSE NEIGHBOUR: 'it returns false'. Refute it at one input. -/
def chunkKnownWrong : ChangeSpec := { name := "chunkKnown", fn := fun _ => fun
  | [d] => { results := [.lit (.bool false)], args := [d] }
  | _ => none }
def ChunkKnownWrongFalsely : Prop := chunkKnownRow.holds Try.pinned (OpenSpec.ofChange chunkKnownWrong)

/-- 'crosswaylaw25.AsconfAnswers': WHATEVER THE INPUT: true; the input reads as it did. -/
def asconfAnswersSpec : ChangeSpec := { name := "asconfAnswers", fn := fun _ => fun
  | [d1, d2, d3] => { results := [.lit (.bool true)], args := [d1, d2, d3] }
  | _ => none }
def asconfAnswersRow : OpenClaim := { program := "ytgajcmanompmcaa", sum := "33dfc2c09736f90a15e1f502f6648efa5587773a4c3722efd61fa7cb6dac3d3f", func := "crossway/crosswaylaw25.AsconfAnswers", spec := "asconfAnswers", recurses := true, apart := false }
def AsconfAnswersSaid : Prop := asconfAnswersRow.holds Try.pinned (OpenSpec.ofChange asconfAnswersSpec)

/-- ITS FALSE NEIGHBOUR: 'it returns false'. Refute it at one input. -/
def asconfAnswersWrong : ChangeSpec := { name := "asconfAnswers", fn := fun _ => fun
  | [d1, d2, d3] => { results := [.lit (.bool false)], args := [d1, d2, d3] }
  | _ => none }
def AsconfAnswersWrongFalsely : Prop := asconfAnswersRow.holds Try.pinned (OpenSpec.ofChange asconfAnswersWrong)

/-- 'crosswaylaw06.ChunkPuts': WHATEVER THE INPUT: true; the input reads as it did. -/
def chunkPutsSpec : ChangeSpec := { name := "chunkPuts", fn := fun _ => fun
  | [d] => { results := [.lit (.bool true)], args := [d] }
  | _ => none }
def chunkPutsRow : OpenClaim := { program := "ytgajcmanompmcaa", sum := "33dfc2c09736f90a15e1f502f6648efa5587773a4c3722efd61fa7cb6dac3d3f", func := "crossway/crosswaylaw06.ChunkPuts", spec := "chunkPuts", recurses := true, apart := false }
def ChunkPutsSaid : Prop := chunkPutsRow.holds Try.pinned (OpenSpec.ofChange chunkPutsSpec)

/-- ITS FALSE NEIGHBOUR: 'it returns false'. Refute it at one input. -/
def chunkPutsWrong : ChangeSpec := { name := "chunkPuts", fn := fun _ => fun
  | [d] => { results := [.lit (.bool false)], args := [d] }
  | _ => none }
def ChunkPutsWrongFalsely : Prop := chunkPutsRow.holds Try.pinned (OpenSpec.ofChange chunkPutsWrong)

/- THE SECOND FORM. 'bulk': how many values and letters a reading holds, each counted each time it is reached (what is shared counts as often as it is met; a slice's spare places count too). A statement '..UptoSaid' is the law's where the arguments, and the package variables that the reading takes, are together of bulk at most 1048576: NARROWER than '..Said'. Prove '..Said' where nothing that the law and all that it calls make is longer than what came in: it says more and counts as full. Else prove '..UptoSaid'. A law counts once. -/
mutual
def uptoBulk {H : Type} : DataW H → Nat
  | .lit (.string bytes) => bytes.length + 1
  | .lit _ => 1
  | .nil => 1
  | .ptr d => uptoBulk d + 1
  | .slice elems spare => uptoBulkAll elems + uptoBulkAll spare + 1
  | .agg parts => uptoBulkAll parts + 1
  | .iface _ d => uptoBulk d + 1
  | .map entries => uptoBulkEntries entries + 1
  | .held _ => 1
def uptoBulkAll {H : Type} : List (DataW H) → Nat
  | [] => 0
  | d :: r => uptoBulk d + uptoBulkAll r
def uptoBulkEntries {H : Type} : List (Lit × DataW H) → Nat
  | [] => 0
  | x :: r => uptoBulkEntry x + uptoBulkEntries r
def uptoBulkEntry {H : Type} : Lit × DataW H → Nat
  | (.string bytes, d) => bytes.length + uptoBulk d + 1
  | (_, d) => uptoBulk d + 1
 end
def uptoSmall : (H : Type) → List (DataW H) → Bool := fun _ ds => decide (uptoBulkAll ds ≤ 1048576)
def OpenSpec.upto (s : _root_.Go.ChangeSpec) : _root_.Go.OpenSpec := { _root_.Go.OpenSpec.ofChange s with cond := some uptoSmall }

/-- 'crosswaylaw36.TraceBytes', WHERE WHAT IT READS IS OF BULK AT MOST 1048576: true; the input reads as it did. -/
def traceBytesUptoRow : OpenClaim := { program := "ytgajcmanompmcaa", sum := "33dfc2c09736f90a15e1f502f6648efa5587773a4c3722efd61fa7cb6dac3d3f", func := "crossway/crosswaylaw36.TraceBytes", spec := "traceBytes", unfollowed := true, recurses := true, apart := false, narrowed := true }
def TraceBytesUptoSaid : Prop := traceBytesUptoRow.holds Try.pinned (OpenSpec.upto traceBytesSpec)

/-- 'crosswaylaw36.TraceReads', WHERE WHAT IT READS IS OF BULK AT MOST 1048576: true; the input reads as it did. -/
def traceReadsUptoRow : OpenClaim := { program := "ytgajcmanompmcaa", sum := "33dfc2c09736f90a15e1f502f6648efa5587773a4c3722efd61fa7cb6dac3d3f", func := "crossway/crosswaylaw36.TraceReads", spec := "traceReads", unfollowed := true, recurses := true, apart := false, narrowed := true }
def TraceReadsUptoSaid : Prop := traceReadsUptoRow.holds Try.pinned (OpenSpec.upto traceReadsSpec)

/-- 'crosswaylaw28.ReconfParams', WHERE WHAT IT READS IS OF BULK AT MOST 1048576: true; the input reads as it did. -/
def reconfParamsUptoRow : OpenClaim := { program := "ytgajcmanompmcaa", sum := "33dfc2c09736f90a15e1f502f6648efa5587773a4c3722efd61fa7cb6dac3d3f", func := "crossway/crosswaylaw28.ReconfParams", spec := "reconfParams", unfollowed := true, recurses := true, apart := false, narrowed := true }
def ReconfParamsUptoSaid : Prop := reconfParamsUptoRow.holds Try.pinned (OpenSpec.upto reconfParamsSpec)

/-- 'crosswaylaw28.ReconfAnswers', WHERE WHAT IT READS IS OF BULK AT MOST 1048576: true; the input reads as it did. -/
def reconfAnswersUptoRow : OpenClaim := { program := "ytgajcmanompmcaa", sum := "33dfc2c09736f90a15e1f502f6648efa5587773a4c3722efd61fa7cb6dac3d3f", func := "crossway/crosswaylaw28.ReconfAnswers", spec := "reconfAnswers", unfollowed := true, recurses := true, apart := false, narrowed := true }
def ReconfAnswersUptoSaid : Prop := reconfAnswersUptoRow.holds Try.pinned (OpenSpec.upto reconfAnswersSpec)

/-- 'crosswaylaw28.ReconfAsks', WHERE WHAT IT READS IS OF BULK AT MOST 1048576: true; the input reads as it did. -/
def reconfAsksUptoRow : OpenClaim := { program := "ytgajcmanompmcaa", sum := "33dfc2c09736f90a15e1f502f6648efa5587773a4c3722efd61fa7cb6dac3d3f", func := "crossway/crosswaylaw28.ReconfAsks", spec := "reconfAsks", unfollowed := true, recurses := true, apart := false, narrowed := true }
def ReconfAsksUptoSaid : Prop := reconfAsksUptoRow.holds Try.pinned (OpenSpec.upto reconfAsksSpec)

/-- 'crosswaylaw06.ChunkKnown', WHERE WHAT IT READS IS OF BULK AT MOST 1048576: true; the input reads as it did. -/
def chunkKnownUptoRow : OpenClaim := { program := "ytgajcmanompmcaa", sum := "33dfc2c09736f90a15e1f502f6648efa5587773a4c3722efd61fa7cb6dac3d3f", func := "crossway/crosswaylaw06.ChunkKnown", spec := "chunkKnown", apart := false, narrowed := true }
def ChunkKnownUptoSaid : Prop := chunkKnownUptoRow.holds Try.pinned (OpenSpec.upto chunkKnownSpec)

/-- 'crosswaylaw25.AsconfAnswers', WHERE WHAT IT READS IS OF BULK AT MOST 1048576: true; the input reads as it did. -/
def asconfAnswersUptoRow : OpenClaim := { program := "ytgajcmanompmcaa", sum := "33dfc2c09736f90a15e1f502f6648efa5587773a4c3722efd61fa7cb6dac3d3f", func := "crossway/crosswaylaw25.AsconfAnswers", spec := "asconfAnswers", recurses := true, apart := false, narrowed := true }
def AsconfAnswersUptoSaid : Prop := asconfAnswersUptoRow.holds Try.pinned (OpenSpec.upto asconfAnswersSpec)

/-- 'crosswaylaw06.ChunkPuts', WHERE WHAT IT READS IS OF BULK AT MOST 1048576: true; the input reads as it did. -/
def chunkPutsUptoRow : OpenClaim := { program := "ytgajcmanompmcaa", sum := "33dfc2c09736f90a15e1f502f6648efa5587773a4c3722efd61fa7cb6dac3d3f", func := "crossway/crosswaylaw06.ChunkPuts", spec := "chunkPuts", recurses := true, apart := false, narrowed := true }
def ChunkPutsUptoSaid : Prop := chunkPutsUptoRow.holds Try.pinned (OpenSpec.upto chunkPutsSpec)

end Rows
end Go.Proofs.Ytgajcmanompmcaa
