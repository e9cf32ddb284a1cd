/-
  No cell of these rows narrows 'for every input' (looked for: loops, veiled, ifaces, maps, wideKeys, modest, calm, conditions, laid).
  DERIVED. THE GIVEN ROWS OF THIS SEAT. 12 by the template 'for every input the law returns true; each argument reads behind the call as it read before'; 0 by the template 'total and deterministic' (their statements: YtmdncojhnbbafaaTotals.lean).
  GIVEN WITH THE SEED: the statements are not yours to turn. If you find one false, say at which input.
  Laid BY PROGRAM, IN A SANDBOX (cutbox-rows.mjs): the forced cells as the released guide's own fill.sh prints them over the translation 9b8df0c7d5c0d81b… (all of the seat's roots in one cut). By AI agents, Wed Nov 11 2026. No macro, syntax, notation, axiom, sorry.
-/
import Derived.Test.YtmdncojhnbbafaaChecked
import GoSem.Claim
import GoSem.ClaimJoined
import GoSem.ClaimMapViews
import Derived.JoinedTies
import Derived.KernelRfl
namespace Go.Proofs.Ytmdncojhnbbafaa
/- THE CELL 'sum', in the pinned program and in every row, IS THE sha256 OF THE DUMP (.gsa) THAT YtmdncojhnbbafaaProg.lean LOADS. Nothing in Lean hashes anything: it is a label: what it is worth is what the hold of that sum in a sandbox is worth. -/
noncomputable def Try.pinned : Pinned := { name := "ytmdncojhnbbafaa", sum := "9b8df0c7d5c0d81bd24ff0a06fe0444746da6bfde3d2adb0fbc5875d4eb48ca2", checked := Try.checked }
namespace Rows
def none {H : Type} : Left H := { results := [], args := [] }

/-- 'crosswaylaw05.CauseFinds': WHATEVER THE INPUT: true; the input reads as it did. -/
def causeFindsSpec : ChangeSpec := { name := "causeFinds", fn := fun _ => fun
  | [d1, d2, d3] => { results := [.lit (.bool true)], args := [d1, d2, d3] }
  | _ => none }
def causeFindsRow : OpenClaim := { program := "ytmdncojhnbbafaa", sum := "9b8df0c7d5c0d81bd24ff0a06fe0444746da6bfde3d2adb0fbc5875d4eb48ca2", func := "crossway/crosswaylaw05.CauseFinds", spec := "causeFinds", recurses := true, apart := false }
def CauseFindsSaid : Prop := causeFindsRow.holds Try.pinned (OpenSpec.ofChange causeFindsSpec)

/-- ITS FALSE NEIGHBOUR: 'it returns false'. Refute it at one input. -/
def causeFindsWrong : ChangeSpec := { name := "causeFinds", fn := fun _ => fun
  | [d1, d2, d3] => { results := [.lit (.bool false)], args := [d1, d2, d3] }
  | _ => none }
def CauseFindsWrongFalsely : Prop := causeFindsRow.holds Try.pinned (OpenSpec.ofChange causeFindsWrong)

/-- 'crosswaylaw03.OctetPuts': WHATEVER THE INPUT: true; the input reads as it did. -/
def octetPutsSpec : ChangeSpec := { name := "octetPuts", fn := fun _ => fun
  | [d1, d2] => { results := [.lit (.bool true)], args := [d1, d2] }
  | _ => none }
def octetPutsRow : OpenClaim := { program := "ytmdncojhnbbafaa", sum := "9b8df0c7d5c0d81bd24ff0a06fe0444746da6bfde3d2adb0fbc5875d4eb48ca2", func := "crossway/crosswaylaw03.OctetPuts", spec := "octetPuts", recurses := true, apart := false }
def OctetPutsSaid : Prop := octetPutsRow.holds Try.pinned (OpenSpec.ofChange octetPutsSpec)

/-- ITS FALSE NEIGHBOUR: 'it returns false'. Refute it at one input. -/
def octetPutsWrong : ChangeSpec := { name := "octetPuts", fn := fun _ => fun
  | [d1, d2] => { results := [.lit (.bool false)], args := [d1, d2] }
  | _ => none }
def OctetPutsWrongFalsely : Prop := octetPutsRow.holds Try.pinned (OpenSpec.ofChange octetPutsWrong)

/-- 'crosswaylaw03.OctetReads': WHATEVER THE INPUT: true; the input reads as it did. -/
def octetReadsSpec : ChangeSpec := { name := "octetReads", fn := fun _ => fun
  | [d1, d2] => { results := [.lit (.bool true)], args := [d1, d2] }
  | _ => none }
def octetReadsRow : OpenClaim := { program := "ytmdncojhnbbafaa", sum := "9b8df0c7d5c0d81bd24ff0a06fe0444746da6bfde3d2adb0fbc5875d4eb48ca2", func := "crossway/crosswaylaw03.OctetReads", spec := "octetReads", apart := false }
def OctetReadsSaid : Prop := octetReadsRow.holds Try.pinned (OpenSpec.ofChange octetReadsSpec)

/-- ITS FALSE NEIGHBOUR: 'it returns false'. Refute it at one input. -/
def octetReadsWrong : ChangeSpec := { name := "octetReads", fn := fun _ => fun
  | [d1, d2] => { results := [.lit (.bool false)], args := [d1, d2] }
  | _ => none }
def OctetReadsWrongFalsely : Prop := octetReadsRow.holds Try.pinned (OpenSpec.ofChange octetReadsWrong)

/-- 'crosswaylaw03.OctetNone': WHATEVER THE INPUT: true; the input reads as it did. -/
def octetNoneSpec : ChangeSpec := { name := "octetNone", fn := fun _ => fun
  | [d] => { results := [.lit (.bool true)], args := [d] }
  | _ => none }
def octetNoneRow : OpenClaim := { program := "ytmdncojhnbbafaa", sum := "9b8df0c7d5c0d81bd24ff0a06fe0444746da6bfde3d2adb0fbc5875d4eb48ca2", func := "crossway/crosswaylaw03.OctetNone", spec := "octetNone", apart := false }
def OctetNoneSaid : Prop := octetNoneRow.holds Try.pinned (OpenSpec.ofChange octetNoneSpec)

/-- ITS FALSE NEIGHBOUR: 'it returns false'. Refute it at one input. -/
def octetNoneWrong : ChangeSpec := { name := "octetNone", fn := fun _ => fun
  | [d] => { results := [.lit (.bool false)], args := [d] }
  | _ => none }
def OctetNoneWrongFalsely : Prop := octetNoneRow.holds Try.pinned (OpenSpec.ofChange octetNoneWrong)

/-- 'crosswaylaw04.ParamFinds': WHATEVER THE INPUT: true; the input reads as it did. -/
def paramFindsSpec : ChangeSpec := { name := "paramFinds", fn := fun _ => fun
  | [d1, d2] => { results := [.lit (.bool true)], args := [d1, d2] }
  | _ => none }
def paramFindsRow : OpenClaim := { program := "ytmdncojhnbbafaa", sum := "9b8df0c7d5c0d81bd24ff0a06fe0444746da6bfde3d2adb0fbc5875d4eb48ca2", func := "crossway/crosswaylaw04.ParamFinds", spec := "paramFinds", apart := false }
def ParamFindsSaid : Prop := paramFindsRow.holds Try.pinned (OpenSpec.ofChange paramFindsSpec)

/-- ITS FALSE NEIGHBOUR: 'it returns false'. Refute it at one input. -/
def paramFindsWrong : ChangeSpec := { name := "paramFinds", fn := fun _ => fun
  | [d1, d2] => { results := [.lit (.bool false)], args := [d1, d2] }
  | _ => none }
def ParamFindsWrongFalsely : Prop := paramFindsRow.holds Try.pinned (OpenSpec.ofChange paramFindsWrong)

/-- 'crosswaylaw04.ParamTagged': WHATEVER THE INPUT: true; the input reads as it did. -/
def paramTaggedSpec : ChangeSpec := { name := "paramTagged", fn := fun _ => fun
  | [d1, d2, d3] => { results := [.lit (.bool true)], args := [d1, d2, d3] }
  | _ => none }
def paramTaggedRow : OpenClaim := { program := "ytmdncojhnbbafaa", sum := "9b8df0c7d5c0d81bd24ff0a06fe0444746da6bfde3d2adb0fbc5875d4eb48ca2", func := "crossway/crosswaylaw04.ParamTagged", spec := "paramTagged", apart := false }
def ParamTaggedSaid : Prop := paramTaggedRow.holds Try.pinned (OpenSpec.ofChange paramTaggedSpec)

/-- ITS FALSE NEIGHBOUR: 'it returns false'. Refute it at one input. -/
def paramTaggedWrong : ChangeSpec := { name := "paramTagged", fn := fun _ => fun
  | [d1, d2, d3] => { results := [.lit (.bool false)], args := [d1, d2, d3] }
  | _ => none }
def ParamTaggedWrongFalsely : Prop := paramTaggedRow.holds Try.pinned (OpenSpec.ofChange paramTaggedWrong)

/-- 'crosswaylaw04.ParamAnswers': WHATEVER THE INPUT: true; the input reads as it did. -/
def paramAnswersSpec : ChangeSpec := { name := "paramAnswers", fn := fun _ => fun
  | [d1, d2, d3] => { results := [.lit (.bool true)], args := [d1, d2, d3] }
  | _ => none }
def paramAnswersRow : OpenClaim := { program := "ytmdncojhnbbafaa", sum := "9b8df0c7d5c0d81bd24ff0a06fe0444746da6bfde3d2adb0fbc5875d4eb48ca2", func := "crossway/crosswaylaw04.ParamAnswers", spec := "paramAnswers", apart := false }
def ParamAnswersSaid : Prop := paramAnswersRow.holds Try.pinned (OpenSpec.ofChange paramAnswersSpec)

/-- ITS FALSE NEIGHBOUR: 'it returns false'. Refute it at one input. -/
def paramAnswersWrong : ChangeSpec := { name := "paramAnswers", fn := fun _ => fun
  | [d1, d2, d3] => { results := [.lit (.bool false)], args := [d1, d2, d3] }
  | _ => none }
def ParamAnswersWrongFalsely : Prop := paramAnswersRow.holds Try.pinned (OpenSpec.ofChange paramAnswersWrong)

/-- 'crosswaylaw04.ParamPuts': WHATEVER THE INPUT: true; the input reads as it did. -/
def paramPutsSpec : ChangeSpec := { name := "paramPuts", fn := fun _ => fun
  | [d] => { results := [.lit (.bool true)], args := [d] }
  | _ => none }
def paramPutsRow : OpenClaim := { program := "ytmdncojhnbbafaa", sum := "9b8df0c7d5c0d81bd24ff0a06fe0444746da6bfde3d2adb0fbc5875d4eb48ca2", func := "crossway/crosswaylaw04.ParamPuts", spec := "paramPuts", recurses := true, apart := false }
def ParamPutsSaid : Prop := paramPutsRow.holds Try.pinned (OpenSpec.ofChange paramPutsSpec)

/-- ITS FALSE NEIGHBOUR: 'it returns false'. Refute it at one input. -/
def paramPutsWrong : ChangeSpec := { name := "paramPuts", fn := fun _ => fun
  | [d] => { results := [.lit (.bool false)], args := [d] }
  | _ => none }
def ParamPutsWrongFalsely : Prop := paramPutsRow.holds Try.pinned (OpenSpec.ofChange paramPutsWrong)

/-- 'crosswaylaw05.CauseReads': WHATEVER THE INPUT: true; the input reads as it did. -/
def causeReadsSpec : ChangeSpec := { name := "causeReads", fn := fun _ => fun
  | [d] => { results := [.lit (.bool true)], args := [d] }
  | _ => none }
def causeReadsRow : OpenClaim := { program := "ytmdncojhnbbafaa", sum := "9b8df0c7d5c0d81bd24ff0a06fe0444746da6bfde3d2adb0fbc5875d4eb48ca2", func := "crossway/crosswaylaw05.CauseReads", spec := "causeReads", apart := false }
def CauseReadsSaid : Prop := causeReadsRow.holds Try.pinned (OpenSpec.ofChange causeReadsSpec)

/-- ITS FALSE NEIGHBOUR: 'it returns false'. Refute it at one input. -/
def causeReadsWrong : ChangeSpec := { name := "causeReads", fn := fun _ => fun
  | [d] => { results := [.lit (.bool false)], args := [d] }
  | _ => none }
def CauseReadsWrongFalsely : Prop := causeReadsRow.holds Try.pinned (OpenSpec.ofChange causeReadsWrong)

/-- 'crosswaylaw04.ParamAsks': WHATEVER THE INPUT: true; the input reads as it did. -/
def paramAsksSpec : ChangeSpec := { name := "paramAsks", fn := fun _ => fun
  | [d1, d2, d3] => { results := [.lit (.bool true)], args := [d1, d2, d3] }
  | _ => none }
def paramAsksRow : OpenClaim := { program := "ytmdncojhnbbafaa", sum := "9b8df0c7d5c0d81bd24ff0a06fe0444746da6bfde3d2adb0fbc5875d4eb48ca2", func := "crossway/crosswaylaw04.ParamAsks", spec := "paramAsks", apart := false }
def ParamAsksSaid : Prop := paramAsksRow.holds Try.pinned (OpenSpec.ofChange paramAsksSpec)

/-- ITS FALSE NEIGHBOUR: 'it returns false'. Refute it at one input. -/
def paramAsksWrong : ChangeSpec := { name := "paramAsks", fn := fun _ => fun
  | [d1, d2, d3] => { results := [.lit (.bool false)], args := [d1, d2, d3] }
  | _ => none }
def ParamAsksWrongFalsely : Prop := paramAsksRow.holds Try.pinned (OpenSpec.ofChange paramAsksWrong)

/-- 'crosswaylaw04.ParamReads': WHATEVER THE INPUT: true; the input reads as it did. -/
def paramReadsSpec : ChangeSpec := { name := "paramReads", fn := fun _ => fun
  | [d] => { results := [.lit (.bool true)], args := [d] }
  | _ => none }
def paramReadsRow : OpenClaim := { program := "ytmdncojhnbbafaa", sum := "9b8df0c7d5c0d81bd24ff0a06fe0444746da6bfde3d2adb0fbc5875d4eb48ca2", func := "crossway/crosswaylaw04.ParamReads", spec := "paramReads", apart := false }
def ParamReadsSaid : Prop := paramReadsRow.holds Try.pinned (OpenSpec.ofChange paramReadsSpec)

/-- ITS FALSE NEIGHBOUR: 'it returns false'. Refute it at one input. -/
def paramReadsWrong : ChangeSpec := { name := "paramReads", fn := fun _ => fun
  | [d] => { results := [.lit (.bool false)], args := [d] }
  | _ => none }
def ParamReadsWrongFalsely : Prop := paramReadsRow.holds Try.pinned (OpenSpec.ofChange paramReadsWrong)

/-- 'crosswaylaw05.CausePuts': WHATEVER THE INPUT: true; the input reads as it did. -/
def causePutsSpec : ChangeSpec := { name := "causePuts", fn := fun _ => fun
  | [d] => { results := [.lit (.bool true)], args := [d] }
  | _ => none }
def causePutsRow : OpenClaim := { program := "ytmdncojhnbbafaa", sum := "9b8df0c7d5c0d81bd24ff0a06fe0444746da6bfde3d2adb0fbc5875d4eb48ca2", func := "crossway/crosswaylaw05.CausePuts", spec := "causePuts", recurses := true, apart := false }
def CausePutsSaid : Prop := causePutsRow.holds Try.pinned (OpenSpec.ofChange causePutsSpec)

/-- ITS FALSE NEIGHBOUR: 'it returns false'. Refute it at one input. -/
def causePutsWrong : ChangeSpec := { name := "causePuts", fn := fun _ => fun
  | [d] => { results := [.lit (.bool false)], args := [d] }
  | _ => none }
def CausePutsWrongFalsely : Prop := causePutsRow.holds Try.pinned (OpenSpec.ofChange causePutsWrong)

/- THE SECOND FORM. 'bulk': how many values and letters a reading holds, each counted each time it is reached (what is shared counts as often as it is met; a slice's spare places count too). A statement '..UptoSaid' is the law's where the arguments, and the package variables that the reading takes, are together of bulk at most 1048576: NARROWER than '..Said'. Prove '..Said' where nothing that the law and all that it calls make is longer than what came in: it says more and counts as full. Else prove '..UptoSaid'. A law counts once. -/
mutual
def uptoBulk {H : Type} : DataW H → Nat
  | .lit (.string bytes) => bytes.length + 1
  | .lit _ => 1
  | .nil => 1
  | .ptr d => uptoBulk d + 1
  | .slice elems spare => uptoBulkAll elems + uptoBulkAll spare + 1
  | .agg parts => uptoBulkAll parts + 1
  | .iface _ d => uptoBulk d + 1
  | .map entries => uptoBulkEntries entries + 1
  | .held _ => 1
def uptoBulkAll {H : Type} : List (DataW H) → Nat
  | [] => 0
  | d :: r => uptoBulk d + uptoBulkAll r
def uptoBulkEntries {H : Type} : List (Lit × DataW H) → Nat
  | [] => 0
  | x :: r => uptoBulkEntry x + uptoBulkEntries r
def uptoBulkEntry {H : Type} : Lit × DataW H → Nat
  | (.string bytes, d) => bytes.length + uptoBulk d + 1
  | (_, d) => uptoBulk d + 1
 end
def uptoSmall : (H : Type) → List (DataW H) → Bool := fun _ ds => decide (uptoBulkAll ds ≤ 1048576)
def OpenSpec.upto (s : _root_.Go.ChangeSpec) : _root_.Go.OpenSpec := { _root_.Go.OpenSpec.ofChange s with cond := some uptoSmall }

/-- 'crosswaylaw05.CauseFinds', WHERE WHAT IT READS IS OF BULK AT MOST 1048576: true; the input reads as it did. -/
def causeFindsUptoRow : OpenClaim := { program := "ytmdncojhnbbafaa", sum := "9b8df0c7d5c0d81bd24ff0a06fe0444746da6bfde3d2adb0fbc5875d4eb48ca2", func := "crossway/crosswaylaw05.CauseFinds", spec := "causeFinds", recurses := true, apart := false, narrowed := true }
def CauseFindsUptoSaid : Prop := causeFindsUptoRow.holds Try.pinned (OpenSpec.upto causeFindsSpec)

/-- 'crosswaylaw03.OctetPuts', WHERE WHAT IT READS IS OF BULK AT MOST 1048576: true; the input reads as it did. -/
def octetPutsUptoRow : OpenClaim := { program := "ytmdncojhnbbafaa", sum := "9b8df0c7d5c0d81bd24ff0a06fe0444746da6bfde3d2adb0fbc5875d4eb48ca2", func := "crossway/crosswaylaw03.OctetPuts", spec := "octetPuts", recurses := true, apart := false, narrowed := true }
def OctetPutsUptoSaid : Prop := octetPutsUptoRow.holds Try.pinned (OpenSpec.upto octetPutsSpec)

/-- 'crosswaylaw03.OctetReads', WHERE WHAT IT READS IS OF BULK AT MOST 1048576: true; the input reads as it did. -/
def octetReadsUptoRow : OpenClaim := { program := "ytmdncojhnbbafaa", sum := "9b8df0c7d5c0d81bd24ff0a06fe0444746da6bfde3d2adb0fbc5875d4eb48ca2", func := "crossway/crosswaylaw03.OctetReads", spec := "octetReads", apart := false, narrowed := true }
def OctetReadsUptoSaid : Prop := octetReadsUptoRow.holds Try.pinned (OpenSpec.upto octetReadsSpec)

/-- 'crosswaylaw03.OctetNone', WHERE WHAT IT READS IS OF BULK AT MOST 1048576: true; the input reads as it did. -/
def octetNoneUptoRow : OpenClaim := { program := "ytmdncojhnbbafaa", sum := "9b8df0c7d5c0d81bd24ff0a06fe0444746da6bfde3d2adb0fbc5875d4eb48ca2", func := "crossway/crosswaylaw03.OctetNone", spec := "octetNone", apart := false, narrowed := true }
def OctetNoneUptoSaid : Prop := octetNoneUptoRow.holds Try.pinned (OpenSpec.upto octetNoneSpec)

/-- 'crosswaylaw04.ParamFinds', WHERE WHAT IT READS IS OF BULK AT MOST 1048576: true; the input reads as it did. -/
def paramFindsUptoRow : OpenClaim := { program := "ytmdncojhnbbafaa", sum := "9b8df0c7d5c0d81bd24ff0a06fe0444746da6bfde3d2adb0fbc5875d4eb48ca2", func := "crossway/crosswaylaw04.ParamFinds", spec := "paramFinds", apart := false, narrowed := true }
def ParamFindsUptoSaid : Prop := paramFindsUptoRow.holds Try.pinned (OpenSpec.upto paramFindsSpec)

/-- 'crosswaylaw04.ParamTagged', WHERE WHAT IT READS IS OF BULK AT MOST 1048576: true; the input reads as it did. -/
def paramTaggedUptoRow : OpenClaim := { program := "ytmdncojhnbbafaa", sum := "9b8df0c7d5c0d81bd24ff0a06fe0444746da6bfde3d2adb0fbc5875d4eb48ca2", func := "crossway/crosswaylaw04.ParamTagged", spec := "paramTagged", apart := false, narrowed := true }
def ParamTaggedUptoSaid : Prop := paramTaggedUptoRow.holds Try.pinned (OpenSpec.upto paramTaggedSpec)

/-- 'crosswaylaw04.ParamAnswers', WHERE WHAT IT READS IS OF BULK AT MOST 1048576: true; the input reads as it did. -/
def paramAnswersUptoRow : OpenClaim := { program := "ytmdncojhnbbafaa", sum := "9b8df0c7d5c0d81bd24ff0a06fe0444746da6bfde3d2adb0fbc5875d4eb48ca2", func := "crossway/crosswaylaw04.ParamAnswers", spec := "paramAnswers", apart := false, narrowed := true }
def ParamAnswersUptoSaid : Prop := paramAnswersUptoRow.holds Try.pinned (OpenSpec.upto paramAnswersSpec)

/-- 'crosswaylaw04.ParamPuts', WHERE WHAT IT READS IS OF BULK AT MOST 1048576: true; the input reads as it did. -/
def paramPutsUptoRow : OpenClaim := { program := "ytmdncojhnbbafaa", sum := "9b8df0c7d5c0d81bd24ff0a06fe0444746da6bfde3d2adb0fbc5875d4eb48ca2", func := "crossway/crosswaylaw04.ParamPuts", spec := "paramPuts", recurses := true, apart := false, narrowed := true }
def ParamPutsUptoSaid : Prop := paramPutsUptoRow.holds Try.pinned (OpenSpec.upto paramPutsSpec)

/-- 'crosswaylaw05.CauseReads', WHERE WHAT IT READS IS OF BULK AT MOST 1048576: true; the input reads as it did. -/
def causeReadsUptoRow : OpenClaim := { program := "ytmdncojhnbbafaa", sum := "9b8df0c7d5c0d81bd24ff0a06fe0444746da6bfde3d2adb0fbc5875d4eb48ca2", func := "crossway/crosswaylaw05.CauseReads", spec := "causeReads", apart := false, narrowed := true }
def CauseReadsUptoSaid : Prop := causeReadsUptoRow.holds Try.pinned (OpenSpec.upto causeReadsSpec)

/-- 'crosswaylaw04.ParamAsks', WHERE WHAT IT READS IS OF BULK AT MOST 1048576: true; the input reads as it did. -/
def paramAsksUptoRow : OpenClaim := { program := "ytmdncojhnbbafaa", sum := "9b8df0c7d5c0d81bd24ff0a06fe0444746da6bfde3d2adb0fbc5875d4eb48ca2", func := "crossway/crosswaylaw04.ParamAsks", spec := "paramAsks", apart := false, narrowed := true }
def ParamAsksUptoSaid : Prop := paramAsksUptoRow.holds Try.pinned (OpenSpec.upto paramAsksSpec)

/-- 'crosswaylaw04.ParamReads', WHERE WHAT IT READS IS OF BULK AT MOST 1048576: true; the input reads as it did. -/
def paramReadsUptoRow : OpenClaim := { program := "ytmdncojhnbbafaa", sum := "9b8df0c7d5c0d81bd24ff0a06fe0444746da6bfde3d2adb0fbc5875d4eb48ca2", func := "crossway/crosswaylaw04.ParamReads", spec := "paramReads", apart := false, narrowed := true }
def ParamReadsUptoSaid : Prop := paramReadsUptoRow.holds Try.pinned (OpenSpec.upto paramReadsSpec)

/-- 'crosswaylaw05.CausePuts', WHERE WHAT IT READS IS OF BULK AT MOST 1048576: true; the input reads as it did. -/
def causePutsUptoRow : OpenClaim := { program := "ytmdncojhnbbafaa", sum := "9b8df0c7d5c0d81bd24ff0a06fe0444746da6bfde3d2adb0fbc5875d4eb48ca2", func := "crossway/crosswaylaw05.CausePuts", spec := "causePuts", recurses := true, apart := false, narrowed := true }
def CausePutsUptoSaid : Prop := causePutsUptoRow.holds Try.pinned (OpenSpec.upto causePutsSpec)

end Rows
end Go.Proofs.Ytmdncojhnbbafaa
