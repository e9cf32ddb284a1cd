/-
  No cell of these rows narrows 'for every input' (looked for: loops, veiled, ifaces, maps, wideKeys, modest, calm, conditions, laid).
  DERIVED. THE GIVEN ROWS OF THIS SEAT. 5 by the template 'for every input the law returns true; each argument reads behind the call as it read before'; 0 by the template 'total and deterministic' (their statements: YtdiofapingdlmaaTotals.lean).
  GIVEN WITH THE SEED: the statements are not yours to turn. If you find one false, say at which input.
  Laid BY PROGRAM, IN A SANDBOX (cutbox-rows.mjs): the forced cells as the released guide's own fill.sh prints them over the translation fa75e9b7e331f630… (all of the seat's roots in one cut). By AI agents, Wed Nov 11 2026. No macro, syntax, notation, axiom, sorry.
-/
import Derived.Test.YtdiofapingdlmaaChecked
import GoSem.Claim
import GoSem.ClaimJoined
import GoSem.ClaimMapViews
import Derived.JoinedTies
import Derived.KernelRfl
namespace Go.Proofs.Ytdiofapingdlmaa
/- THE CELL 'sum', in the pinned program and in every row, IS THE sha256 OF THE DUMP (.gsa) THAT YtdiofapingdlmaaProg.lean LOADS. Nothing in Lean hashes anything: it is a label: what it is worth is what the hold of that sum in a sandbox is worth. -/
noncomputable def Try.pinned : Pinned := { name := "ytdiofapingdlmaa", sum := "fa75e9b7e331f630903732dd1c28721b7d0985b5edfc3603071d02f291ee21b1", checked := Try.checked }
namespace Rows
def none {H : Type} : Left H := { results := [], args := [] }

/-- 'crosswaylaw40.FilerTakes': WHATEVER THE INPUT: true; the input reads as it did. -/
def filerTakesSpec : ChangeSpec := { name := "filerTakes", fn := fun _ => fun
  | [d1, d2, d3] => { results := [.lit (.bool true)], args := [d1, d2, d3] }
  | _ => none }
def filerTakesRow : OpenClaim := { program := "ytdiofapingdlmaa", sum := "fa75e9b7e331f630903732dd1c28721b7d0985b5edfc3603071d02f291ee21b1", func := "crossway/crosswaylaw40.FilerTakes", spec := "filerTakes", unfollowed := true, recurses := true, apart := false }
def FilerTakesSaid : Prop := filerTakesRow.holds Try.pinned (OpenSpec.ofChange filerTakesSpec)

/-- ITS FALSE NEIGHBOUR: 'it returns false'. Refute it at one input. -/
def filerTakesWrong : ChangeSpec := { name := "filerTakes", fn := fun _ => fun
  | [d1, d2, d3] => { results := [.lit (.bool false)], args := [d1, d2, d3] }
  | _ => none }
def FilerTakesWrongFalsely : Prop := filerTakesRow.holds Try.pinned (OpenSpec.ofChange filerTakesWrong)

/-- 'crosswaylaw40.FilerReads': WHATEVER THE INPUT: true; the input reads as it did. -/
def filerReadsSpec : ChangeSpec := { name := "filerReads", fn := fun _ => fun
  | [d1, d2, d3] => { results := [.lit (.bool true)], args := [d1, d2, d3] }
  | _ => none }
def filerReadsRow : OpenClaim := { program := "ytdiofapingdlmaa", sum := "fa75e9b7e331f630903732dd1c28721b7d0985b5edfc3603071d02f291ee21b1", func := "crossway/crosswaylaw40.FilerReads", spec := "filerReads", unfollowed := true, recurses := true, apart := false }
def FilerReadsSaid : Prop := filerReadsRow.holds Try.pinned (OpenSpec.ofChange filerReadsSpec)

/-- ITS FALSE NEIGHBOUR: 'it returns false'. Refute it at one input. -/
def filerReadsWrong : ChangeSpec := { name := "filerReads", fn := fun _ => fun
  | [d1, d2, d3] => { results := [.lit (.bool false)], args := [d1, d2, d3] }
  | _ => none }
def FilerReadsWrongFalsely : Prop := filerReadsRow.holds Try.pinned (OpenSpec.ofChange filerReadsWrong)

/-- 'crosswaylaw40.FilerLimits': WHATEVER THE INPUT: true; the input reads as it did. -/
def filerLimitsSpec : ChangeSpec := { name := "filerLimits", fn := fun _ => fun
  | [d] => { results := [.lit (.bool true)], args := [d] }
  | _ => none }
def filerLimitsRow : OpenClaim := { program := "ytdiofapingdlmaa", sum := "fa75e9b7e331f630903732dd1c28721b7d0985b5edfc3603071d02f291ee21b1", func := "crossway/crosswaylaw40.FilerLimits", spec := "filerLimits", unfollowed := true, recurses := true, apart := false }
def FilerLimitsSaid : Prop := filerLimitsRow.holds Try.pinned (OpenSpec.ofChange filerLimitsSpec)

/-- ITS FALSE NEIGHBOUR: 'it returns false'. Refute it at one input. -/
def filerLimitsWrong : ChangeSpec := { name := "filerLimits", fn := fun _ => fun
  | [d] => { results := [.lit (.bool false)], args := [d] }
  | _ => none }
def FilerLimitsWrongFalsely : Prop := filerLimitsRow.holds Try.pinned (OpenSpec.ofChange filerLimitsWrong)

/-- 'crosswaylaw40.FilerSends': WHATEVER THE INPUT: true; the input reads as it did. -/
def filerSendsSpec : ChangeSpec := { name := "filerSends", fn := fun _ => fun
  | [d1, d2] => { results := [.lit (.bool true)], args := [d1, d2] }
  | _ => none }
def filerSendsRow : OpenClaim := { program := "ytdiofapingdlmaa", sum := "fa75e9b7e331f630903732dd1c28721b7d0985b5edfc3603071d02f291ee21b1", func := "crossway/crosswaylaw40.FilerSends", spec := "filerSends", unfollowed := true, recurses := true, apart := false }
def FilerSendsSaid : Prop := filerSendsRow.holds Try.pinned (OpenSpec.ofChange filerSendsSpec)

/-- ITS FALSE NEIGHBOUR: 'it returns false'. Refute it at one input. -/
def filerSendsWrong : ChangeSpec := { name := "filerSends", fn := fun _ => fun
  | [d1, d2] => { results := [.lit (.bool false)], args := [d1, d2] }
  | _ => none }
def FilerSendsWrongFalsely : Prop := filerSendsRow.holds Try.pinned (OpenSpec.ofChange filerSendsWrong)

/-- 'crosswaylaw40.FilerNone': WHATEVER THE INPUT: true; the input reads as it did. -/
def filerNoneSpec : ChangeSpec := { name := "filerNone", fn := fun _ => fun
  | [d1, d2] => { results := [.lit (.bool true)], args := [d1, d2] }
  | _ => none }
def filerNoneRow : OpenClaim := { program := "ytdiofapingdlmaa", sum := "fa75e9b7e331f630903732dd1c28721b7d0985b5edfc3603071d02f291ee21b1", func := "crossway/crosswaylaw40.FilerNone", spec := "filerNone", unfollowed := true, recurses := true, apart := false }
def FilerNoneSaid : Prop := filerNoneRow.holds Try.pinned (OpenSpec.ofChange filerNoneSpec)

/-- ITS FALSE NEIGHBOUR: 'it returns false'. Refute it at one input. -/
def filerNoneWrong : ChangeSpec := { name := "filerNone", fn := fun _ => fun
  | [d1, d2] => { results := [.lit (.bool false)], args := [d1, d2] }
  | _ => none }
def FilerNoneWrongFalsely : Prop := filerNoneRow.holds Try.pinned (OpenSpec.ofChange filerNoneWrong)

/- THE SECOND FORM. 'bulk': how many values and letters a reading holds, each counted each time it is reached (what is shared counts as often as it is met; a slice's spare places count too). A statement '..UptoSaid' is the law's where the arguments, and the package variables that the reading takes, are together of bulk at most 1048576: NARROWER than '..Said'. Prove '..Said' where nothing that the law and all that it calls make is longer than what came in: it says more and counts as full. Else prove '..UptoSaid'. A law counts once. -/
mutual
def uptoBulk {H : Type} : DataW H → Nat
  | .lit (.string bytes) => bytes.length + 1
  | .lit _ => 1
  | .nil => 1
  | .ptr d => uptoBulk d + 1
  | .slice elems spare => uptoBulkAll elems + uptoBulkAll spare + 1
  | .agg parts => uptoBulkAll parts + 1
  | .iface _ d => uptoBulk d + 1
  | .map entries => uptoBulkEntries entries + 1
  | .held _ => 1
def uptoBulkAll {H : Type} : List (DataW H) → Nat
  | [] => 0
  | d :: r => uptoBulk d + uptoBulkAll r
def uptoBulkEntries {H : Type} : List (Lit × DataW H) → Nat
  | [] => 0
  | x :: r => uptoBulkEntry x + uptoBulkEntries r
def uptoBulkEntry {H : Type} : Lit × DataW H → Nat
  | (.string bytes, d) => bytes.length + uptoBulk d + 1
  | (_, d) => uptoBulk d + 1
 end
def uptoSmall : (H : Type) → List (DataW H) → Bool := fun _ ds => decide (uptoBulkAll ds ≤ 1048576)
def OpenSpec.upto (s : _root_.Go.ChangeSpec) : _root_.Go.OpenSpec := { _root_.Go.OpenSpec.ofChange s with cond := some uptoSmall }

/-- 'crosswaylaw40.FilerTakes', WHERE WHAT IT READS IS OF BULK AT MOST 1048576: true; the input reads as it did. -/
def filerTakesUptoRow : OpenClaim := { program := "ytdiofapingdlmaa", sum := "fa75e9b7e331f630903732dd1c28721b7d0985b5edfc3603071d02f291ee21b1", func := "crossway/crosswaylaw40.FilerTakes", spec := "filerTakes", unfollowed := true, recurses := true, apart := false, narrowed := true }
def FilerTakesUptoSaid : Prop := filerTakesUptoRow.holds Try.pinned (OpenSpec.upto filerTakesSpec)

/-- 'crosswaylaw40.FilerReads', WHERE WHAT IT READS IS OF BULK AT MOST 1048576: true; the input reads as it did. -/
def filerReadsUptoRow : OpenClaim := { program := "ytdiofapingdlmaa", sum := "fa75e9b7e331f630903732dd1c28721b7d0985b5edfc3603071d02f291ee21b1", func := "crossway/crosswaylaw40.FilerReads", spec := "filerReads", unfollowed := true, recurses := true, apart := false, narrowed := true }
def FilerReadsUptoSaid : Prop := filerReadsUptoRow.holds Try.pinned (OpenSpec.upto filerReadsSpec)

/-- 'crosswaylaw40.FilerLimits', WHERE WHAT IT READS IS OF BULK AT MOST 1048576: true; the input reads as it did. -/
def filerLimitsUptoRow : OpenClaim := { program := "ytdiofapingdlmaa", sum := "fa75e9b7e331f630903732dd1c28721b7d0985b5edfc3603071d02f291ee21b1", func := "crossway/crosswaylaw40.FilerLimits", spec := "filerLimits", unfollowed := true, recurses := true, apart := false, narrowed := true }
def FilerLimitsUptoSaid : Prop := filerLimitsUptoRow.holds Try.pinned (OpenSpec.upto filerLimitsSpec)

/-- 'crosswaylaw40.FilerSends', WHERE WHAT IT READS IS OF BULK AT MOST 1048576: true; the input reads as it did. -/
def filerSendsUptoRow : OpenClaim := { program := "ytdiofapingdlmaa", sum := "fa75e9b7e331f630903732dd1c28721b7d0985b5edfc3603071d02f291ee21b1", func := "crossway/crosswaylaw40.FilerSends", spec := "filerSends", unfollowed := true, recurses := true, apart := false, narrowed := true }
def FilerSendsUptoSaid : Prop := filerSendsUptoRow.holds Try.pinned (OpenSpec.upto filerSendsSpec)

/-- 'crosswaylaw40.FilerNone', WHERE WHAT IT READS IS OF BULK AT MOST 1048576: true; the input reads as it did. -/
def filerNoneUptoRow : OpenClaim := { program := "ytdiofapingdlmaa", sum := "fa75e9b7e331f630903732dd1c28721b7d0985b5edfc3603071d02f291ee21b1", func := "crossway/crosswaylaw40.FilerNone", spec := "filerNone", unfollowed := true, recurses := true, apart := false, narrowed := true }
def FilerNoneUptoSaid : Prop := filerNoneUptoRow.holds Try.pinned (OpenSpec.upto filerNoneSpec)

end Rows
end Go.Proofs.Ytdiofapingdlmaa
