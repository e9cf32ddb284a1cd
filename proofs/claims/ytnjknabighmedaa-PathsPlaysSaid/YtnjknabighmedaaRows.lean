/-
  No cell of these rows narrows 'for every input' (looked for: loops, veiled, ifaces, maps, wideKeys, modest, calm, conditions, laid).
  DERIVED. THE GIVEN ROWS OF THIS SEAT. 11 by the template 'for every input the law returns true; each argument reads behind the call as it read before'; 0 by the template 'total and deterministic' (their statements: YtnjknabighmedaaTotals.lean).
  GIVEN WITH THE SEED: the statements are not yours to turn. If you find one false, say at which input.
  Laid BY PROGRAM, IN A SANDBOX (cutbox-rows.mjs): the forced cells as the released guide's own fill.sh prints them over the translation f667f8530e929d9e… (all of the seat's roots in one cut). By AI agents, Wed Nov 11 2026. No macro, syntax, notation, axiom, sorry.
-/
import Derived.Test.YtnjknabighmedaaChecked
import GoSem.Claim
import GoSem.ClaimJoined
import GoSem.ClaimMapViews
import Derived.JoinedTies
import Derived.KernelRfl
namespace Go.Proofs.Ytnjknabighmedaa
/- THE CELL 'sum', in the pinned program and in every row, IS THE sha256 OF THE DUMP (.gsa) THAT YtnjknabighmedaaProg.lean LOADS. Nothing in Lean hashes anything: it is a label: what it is worth is what the hold of that sum in a sandbox is worth. -/
noncomputable def Try.pinned : Pinned := { name := "ytnjknabighmedaa", sum := "f667f8530e929d9ef3946bd9f586d0a843673d2d406d93d8a80018d7a89d5b52", checked := Try.checked }
namespace Rows
def none {H : Type} : Left H := { results := [], args := [] }

/-- 'crosswaylaw38.AuditTables': WHATEVER THE INPUT: true; the input reads as it did. -/
def auditTablesSpec : ChangeSpec := { name := "auditTables", fn := fun _ => fun
  | [d1, d2] => { results := [.lit (.bool true)], args := [d1, d2] }
  | _ => none }
def auditTablesRow : OpenClaim := { program := "ytnjknabighmedaa", sum := "f667f8530e929d9ef3946bd9f586d0a843673d2d406d93d8a80018d7a89d5b52", func := "crossway/crosswaylaw38.AuditTables", spec := "auditTables", apart := false }
def AuditTablesSaid : Prop := auditTablesRow.holds Try.pinned (OpenSpec.ofChange auditTablesSpec)

/-- ITS FALSE NEIGHBOUR: 'it returns false'. Refute it at one input. -/
def auditTablesWrong : ChangeSpec := { name := "auditTables", fn := fun _ => fun
  | [d1, d2] => { results := [.lit (.bool false)], args := [d1, d2] }
  | _ => none }
def AuditTablesWrongFalsely : Prop := auditTablesRow.holds Try.pinned (OpenSpec.ofChange auditTablesWrong)

/-- 'crosswaylaw38.AuditOwner': WHATEVER THE INPUT: true; the input reads as it did. -/
def auditOwnerSpec : ChangeSpec := { name := "auditOwner", fn := fun _ => fun
  | [d1, d2, d3] => { results := [.lit (.bool true)], args := [d1, d2, d3] }
  | _ => none }
def auditOwnerRow : OpenClaim := { program := "ytnjknabighmedaa", sum := "f667f8530e929d9ef3946bd9f586d0a843673d2d406d93d8a80018d7a89d5b52", func := "crossway/crosswaylaw38.AuditOwner", spec := "auditOwner", unfollowed := true, recurses := true, apart := false }
def AuditOwnerSaid : Prop := auditOwnerRow.holds Try.pinned (OpenSpec.ofChange auditOwnerSpec)

/-- ITS FALSE NEIGHBOUR: 'it returns false'. Refute it at one input. -/
def auditOwnerWrong : ChangeSpec := { name := "auditOwner", fn := fun _ => fun
  | [d1, d2, d3] => { results := [.lit (.bool false)], args := [d1, d2, d3] }
  | _ => none }
def AuditOwnerWrongFalsely : Prop := auditOwnerRow.holds Try.pinned (OpenSpec.ofChange auditOwnerWrong)

/-- 'crosswaylaw11.NattabClash': WHATEVER THE INPUT: true; the input reads as it did. -/
def nattabClashSpec : ChangeSpec := { name := "nattabClash", fn := fun _ => fun
  | [d1, d2, d3] => { results := [.lit (.bool true)], args := [d1, d2, d3] }
  | _ => none }
def nattabClashRow : OpenClaim := { program := "ytnjknabighmedaa", sum := "f667f8530e929d9ef3946bd9f586d0a843673d2d406d93d8a80018d7a89d5b52", func := "crossway/crosswaylaw11.NattabClash", spec := "nattabClash", unfollowed := true, recurses := true, apart := false }
def NattabClashSaid : Prop := nattabClashRow.holds Try.pinned (OpenSpec.ofChange nattabClashSpec)

/-- ITS FALSE NEIGHBOUR: 'it returns false'. Refute it at one input. -/
def nattabClashWrong : ChangeSpec := { name := "nattabClash", fn := fun _ => fun
  | [d1, d2, d3] => { results := [.lit (.bool false)], args := [d1, d2, d3] }
  | _ => none }
def NattabClashWrongFalsely : Prop := nattabClashRow.holds Try.pinned (OpenSpec.ofChange nattabClashWrong)

/-- 'crosswaylaw22.TagsMay': WHATEVER THE INPUT: true; the input reads as it did. -/
def tagsMaySpec : ChangeSpec := { name := "tagsMay", fn := fun _ => fun
  | [d] => { results := [.lit (.bool true)], args := [d] }
  | _ => none }
def tagsMayRow : OpenClaim := { program := "ytnjknabighmedaa", sum := "f667f8530e929d9ef3946bd9f586d0a843673d2d406d93d8a80018d7a89d5b52", func := "crossway/crosswaylaw22.TagsMay", spec := "tagsMay", apart := false }
def TagsMaySaid : Prop := tagsMayRow.holds Try.pinned (OpenSpec.ofChange tagsMaySpec)

/-- ITS FALSE NEIGHBOUR: 'it returns false'. Refute it at one input. -/
def tagsMayWrong : ChangeSpec := { name := "tagsMay", fn := fun _ => fun
  | [d] => { results := [.lit (.bool false)], args := [d] }
  | _ => none }
def TagsMayWrongFalsely : Prop := tagsMayRow.holds Try.pinned (OpenSpec.ofChange tagsMayWrong)

/-- 'crosswaylaw31.NetFull': WHATEVER THE INPUT: true; the input reads as it did. -/
def netFullSpec : ChangeSpec := { name := "netFull", fn := fun _ => fun
  | [d] => { results := [.lit (.bool true)], args := [d] }
  | _ => none }
def netFullRow : OpenClaim := { program := "ytnjknabighmedaa", sum := "f667f8530e929d9ef3946bd9f586d0a843673d2d406d93d8a80018d7a89d5b52", func := "crossway/crosswaylaw31.NetFull", spec := "netFull", apart := false }
def NetFullSaid : Prop := netFullRow.holds Try.pinned (OpenSpec.ofChange netFullSpec)

/-- ITS FALSE NEIGHBOUR: 'it returns false'. Refute it at one input. -/
def netFullWrong : ChangeSpec := { name := "netFull", fn := fun _ => fun
  | [d] => { results := [.lit (.bool false)], args := [d] }
  | _ => none }
def NetFullWrongFalsely : Prop := netFullRow.holds Try.pinned (OpenSpec.ofChange netFullWrong)

/-- 'crosswaylaw37.ModelHeld': WHATEVER THE INPUT: true; the input reads as it did. -/
def modelHeldSpec : ChangeSpec := { name := "modelHeld", fn := fun _ => fun
  | [d1, d2] => { results := [.lit (.bool true)], args := [d1, d2] }
  | _ => none }
def modelHeldRow : OpenClaim := { program := "ytnjknabighmedaa", sum := "f667f8530e929d9ef3946bd9f586d0a843673d2d406d93d8a80018d7a89d5b52", func := "crossway/crosswaylaw37.ModelHeld", spec := "modelHeld", unfollowed := true, recurses := true, apart := false }
def ModelHeldSaid : Prop := modelHeldRow.holds Try.pinned (OpenSpec.ofChange modelHeldSpec)

/-- ITS FALSE NEIGHBOUR: 'it returns false'. Refute it at one input. -/
def modelHeldWrong : ChangeSpec := { name := "modelHeld", fn := fun _ => fun
  | [d1, d2] => { results := [.lit (.bool false)], args := [d1, d2] }
  | _ => none }
def ModelHeldWrongFalsely : Prop := modelHeldRow.holds Try.pinned (OpenSpec.ofChange modelHeldWrong)

/-- 'crosswaylaw31.NetPlays': WHATEVER THE INPUT: true; the input reads as it did. -/
def netPlaysSpec : ChangeSpec := { name := "netPlays", fn := fun _ => fun
  | [d] => { results := [.lit (.bool true)], args := [d] }
  | _ => none }
def netPlaysRow : OpenClaim := { program := "ytnjknabighmedaa", sum := "f667f8530e929d9ef3946bd9f586d0a843673d2d406d93d8a80018d7a89d5b52", func := "crossway/crosswaylaw31.NetPlays", spec := "netPlays", apart := false }
def NetPlaysSaid : Prop := netPlaysRow.holds Try.pinned (OpenSpec.ofChange netPlaysSpec)

/-- ITS FALSE NEIGHBOUR: 'it returns false'. Refute it at one input. -/
def netPlaysWrong : ChangeSpec := { name := "netPlays", fn := fun _ => fun
  | [d] => { results := [.lit (.bool false)], args := [d] }
  | _ => none }
def NetPlaysWrongFalsely : Prop := netPlaysRow.holds Try.pinned (OpenSpec.ofChange netPlaysWrong)

/-- 'crosswaylaw31.NetNone': WHATEVER THE INPUT: true; the input reads as it did. -/
def netNoneSpec : ChangeSpec := { name := "netNone", fn := fun _ => fun
  | [d1, d2] => { results := [.lit (.bool true)], args := [d1, d2] }
  | _ => none }
def netNoneRow : OpenClaim := { program := "ytnjknabighmedaa", sum := "f667f8530e929d9ef3946bd9f586d0a843673d2d406d93d8a80018d7a89d5b52", func := "crossway/crosswaylaw31.NetNone", spec := "netNone", apart := false }
def NetNoneSaid : Prop := netNoneRow.holds Try.pinned (OpenSpec.ofChange netNoneSpec)

/-- ITS FALSE NEIGHBOUR: 'it returns false'. Refute it at one input. -/
def netNoneWrong : ChangeSpec := { name := "netNone", fn := fun _ => fun
  | [d1, d2] => { results := [.lit (.bool false)], args := [d1, d2] }
  | _ => none }
def NetNoneWrongFalsely : Prop := netNoneRow.holds Try.pinned (OpenSpec.ofChange netNoneWrong)

/-- 'crosswaylaw11.NattabNone': WHATEVER THE INPUT: true; the input reads as it did. -/
def nattabNoneSpec : ChangeSpec := { name := "nattabNone", fn := fun _ => fun
  | [d1, d2] => { results := [.lit (.bool true)], args := [d1, d2] }
  | _ => none }
def nattabNoneRow : OpenClaim := { program := "ytnjknabighmedaa", sum := "f667f8530e929d9ef3946bd9f586d0a843673d2d406d93d8a80018d7a89d5b52", func := "crossway/crosswaylaw11.NattabNone", spec := "nattabNone", unfollowed := true, recurses := true, apart := false }
def NattabNoneSaid : Prop := nattabNoneRow.holds Try.pinned (OpenSpec.ofChange nattabNoneSpec)

/-- ITS FALSE NEIGHBOUR: 'it returns false'. Refute it at one input. -/
def nattabNoneWrong : ChangeSpec := { name := "nattabNone", fn := fun _ => fun
  | [d1, d2] => { results := [.lit (.bool false)], args := [d1, d2] }
  | _ => none }
def NattabNoneWrongFalsely : Prop := nattabNoneRow.holds Try.pinned (OpenSpec.ofChange nattabNoneWrong)

/-- 'crosswaylaw15.PathsPlays': WHATEVER THE INPUT: true; the input reads as it did. -/
def pathsPlaysSpec : ChangeSpec := { name := "pathsPlays", fn := fun _ => fun
  | [d] => { results := [.lit (.bool true)], args := [d] }
  | _ => none }
def pathsPlaysRow : OpenClaim := { program := "ytnjknabighmedaa", sum := "f667f8530e929d9ef3946bd9f586d0a843673d2d406d93d8a80018d7a89d5b52", func := "crossway/crosswaylaw15.PathsPlays", spec := "pathsPlays", unfollowed := true, recurses := true, apart := false }
def PathsPlaysSaid : Prop := pathsPlaysRow.holds Try.pinned (OpenSpec.ofChange pathsPlaysSpec)

/-- ITS FALSE NEIGHBOUR: 'it returns false'. Refute it at one input. -/
def pathsPlaysWrong : ChangeSpec := { name := "pathsPlays", fn := fun _ => fun
  | [d] => { results := [.lit (.bool false)], args := [d] }
  | _ => none }
def PathsPlaysWrongFalsely : Prop := pathsPlaysRow.holds Try.pinned (OpenSpec.ofChange pathsPlaysWrong)

/-- 'crosswaylaw15.PathsNone': WHATEVER THE INPUT: true; the input reads as it did. -/
def pathsNoneSpec : ChangeSpec := { name := "pathsNone", fn := fun _ => fun
  | [d1, d2] => { results := [.lit (.bool true)], args := [d1, d2] }
  | _ => none }
def pathsNoneRow : OpenClaim := { program := "ytnjknabighmedaa", sum := "f667f8530e929d9ef3946bd9f586d0a843673d2d406d93d8a80018d7a89d5b52", func := "crossway/crosswaylaw15.PathsNone", spec := "pathsNone", unfollowed := true, recurses := true, apart := false }
def PathsNoneSaid : Prop := pathsNoneRow.holds Try.pinned (OpenSpec.ofChange pathsNoneSpec)

/-- ITS FALSE NEIGHBOUR: 'it returns false'. Refute it at one input. -/
def pathsNoneWrong : ChangeSpec := { name := "pathsNone", fn := fun _ => fun
  | [d1, d2] => { results := [.lit (.bool false)], args := [d1, d2] }
  | _ => none }
def PathsNoneWrongFalsely : Prop := pathsNoneRow.holds Try.pinned (OpenSpec.ofChange pathsNoneWrong)

/- THE SECOND FORM. 'bulk': how many values and letters a reading holds, each counted each time it is reached (what is shared counts as often as it is met; a slice's spare places count too). A statement '..UptoSaid' is the law's where the arguments, and the package variables that the reading takes, are together of bulk at most 1048576: NARROWER than '..Said'. Prove '..Said' where nothing that the law and all that it calls make is longer than what came in: it says more and counts as full. Else prove '..UptoSaid'. A law counts once. -/
mutual
def uptoBulk {H : Type} : DataW H → Nat
  | .lit (.string bytes) => bytes.length + 1
  | .lit _ => 1
  | .nil => 1
  | .ptr d => uptoBulk d + 1
  | .slice elems spare => uptoBulkAll elems + uptoBulkAll spare + 1
  | .agg parts => uptoBulkAll parts + 1
  | .iface _ d => uptoBulk d + 1
  | .map entries => uptoBulkEntries entries + 1
  | .held _ => 1
def uptoBulkAll {H : Type} : List (DataW H) → Nat
  | [] => 0
  | d :: r => uptoBulk d + uptoBulkAll r
def uptoBulkEntries {H : Type} : List (Lit × DataW H) → Nat
  | [] => 0
  | x :: r => uptoBulkEntry x + uptoBulkEntries r
def uptoBulkEntry {H : Type} : Lit × DataW H → Nat
  | (.string bytes, d) => bytes.length + uptoBulk d + 1
  | (_, d) => uptoBulk d + 1
 end
def uptoSmall : (H : Type) → List (DataW H) → Bool := fun _ ds => decide (uptoBulkAll ds ≤ 1048576)
def OpenSpec.upto (s : _root_.Go.ChangeSpec) : _root_.Go.OpenSpec := { _root_.Go.OpenSpec.ofChange s with cond := some uptoSmall }

/-- 'crosswaylaw38.AuditTables', WHERE WHAT IT READS IS OF BULK AT MOST 1048576: true; the input reads as it did. -/
def auditTablesUptoRow : OpenClaim := { program := "ytnjknabighmedaa", sum := "f667f8530e929d9ef3946bd9f586d0a843673d2d406d93d8a80018d7a89d5b52", func := "crossway/crosswaylaw38.AuditTables", spec := "auditTables", apart := false, narrowed := true }
def AuditTablesUptoSaid : Prop := auditTablesUptoRow.holds Try.pinned (OpenSpec.upto auditTablesSpec)

/-- 'crosswaylaw38.AuditOwner', WHERE WHAT IT READS IS OF BULK AT MOST 1048576: true; the input reads as it did. -/
def auditOwnerUptoRow : OpenClaim := { program := "ytnjknabighmedaa", sum := "f667f8530e929d9ef3946bd9f586d0a843673d2d406d93d8a80018d7a89d5b52", func := "crossway/crosswaylaw38.AuditOwner", spec := "auditOwner", unfollowed := true, recurses := true, apart := false, narrowed := true }
def AuditOwnerUptoSaid : Prop := auditOwnerUptoRow.holds Try.pinned (OpenSpec.upto auditOwnerSpec)

/-- 'crosswaylaw11.NattabClash', WHERE WHAT IT READS IS OF BULK AT MOST 1048576: true; the input reads as it did. -/
def nattabClashUptoRow : OpenClaim := { program := "ytnjknabighmedaa", sum := "f667f8530e929d9ef3946bd9f586d0a843673d2d406d93d8a80018d7a89d5b52", func := "crossway/crosswaylaw11.NattabClash", spec := "nattabClash", unfollowed := true, recurses := true, apart := false, narrowed := true }
def NattabClashUptoSaid : Prop := nattabClashUptoRow.holds Try.pinned (OpenSpec.upto nattabClashSpec)

/-- 'crosswaylaw22.TagsMay', WHERE WHAT IT READS IS OF BULK AT MOST 1048576: true; the input reads as it did. -/
def tagsMayUptoRow : OpenClaim := { program := "ytnjknabighmedaa", sum := "f667f8530e929d9ef3946bd9f586d0a843673d2d406d93d8a80018d7a89d5b52", func := "crossway/crosswaylaw22.TagsMay", spec := "tagsMay", apart := false, narrowed := true }
def TagsMayUptoSaid : Prop := tagsMayUptoRow.holds Try.pinned (OpenSpec.upto tagsMaySpec)

/-- 'crosswaylaw31.NetFull', WHERE WHAT IT READS IS OF BULK AT MOST 1048576: true; the input reads as it did. -/
def netFullUptoRow : OpenClaim := { program := "ytnjknabighmedaa", sum := "f667f8530e929d9ef3946bd9f586d0a843673d2d406d93d8a80018d7a89d5b52", func := "crossway/crosswaylaw31.NetFull", spec := "netFull", apart := false, narrowed := true }
def NetFullUptoSaid : Prop := netFullUptoRow.holds Try.pinned (OpenSpec.upto netFullSpec)

/-- 'crosswaylaw37.ModelHeld', WHERE WHAT IT READS IS OF BULK AT MOST 1048576: true; the input reads as it did. -/
def modelHeldUptoRow : OpenClaim := { program := "ytnjknabighmedaa", sum := "f667f8530e929d9ef3946bd9f586d0a843673d2d406d93d8a80018d7a89d5b52", func := "crossway/crosswaylaw37.ModelHeld", spec := "modelHeld", unfollowed := true, recurses := true, apart := false, narrowed := true }
def ModelHeldUptoSaid : Prop := modelHeldUptoRow.holds Try.pinned (OpenSpec.upto modelHeldSpec)

/-- 'crosswaylaw31.NetPlays', WHERE WHAT IT READS IS OF BULK AT MOST 1048576: true; the input reads as it did. -/
def netPlaysUptoRow : OpenClaim := { program := "ytnjknabighmedaa", sum := "f667f8530e929d9ef3946bd9f586d0a843673d2d406d93d8a80018d7a89d5b52", func := "crossway/crosswaylaw31.NetPlays", spec := "netPlays", apart := false, narrowed := true }
def NetPlaysUptoSaid : Prop := netPlaysUptoRow.holds Try.pinned (OpenSpec.upto netPlaysSpec)

/-- 'crosswaylaw31.NetNone', WHERE WHAT IT READS IS OF BULK AT MOST 1048576: true; the input reads as it did. -/
def netNoneUptoRow : OpenClaim := { program := "ytnjknabighmedaa", sum := "f667f8530e929d9ef3946bd9f586d0a843673d2d406d93d8a80018d7a89d5b52", func := "crossway/crosswaylaw31.NetNone", spec := "netNone", apart := false, narrowed := true }
def NetNoneUptoSaid : Prop := netNoneUptoRow.holds Try.pinned (OpenSpec.upto netNoneSpec)

/-- 'crosswaylaw11.NattabNone', WHERE WHAT IT READS IS OF BULK AT MOST 1048576: true; the input reads as it did. -/
def nattabNoneUptoRow : OpenClaim := { program := "ytnjknabighmedaa", sum := "f667f8530e929d9ef3946bd9f586d0a843673d2d406d93d8a80018d7a89d5b52", func := "crossway/crosswaylaw11.NattabNone", spec := "nattabNone", unfollowed := true, recurses := true, apart := false, narrowed := true }
def NattabNoneUptoSaid : Prop := nattabNoneUptoRow.holds Try.pinned (OpenSpec.upto nattabNoneSpec)

/-- 'crosswaylaw15.PathsPlays', WHERE WHAT IT READS IS OF BULK AT MOST 1048576: true; the input reads as it did. -/
def pathsPlaysUptoRow : OpenClaim := { program := "ytnjknabighmedaa", sum := "f667f8530e929d9ef3946bd9f586d0a843673d2d406d93d8a80018d7a89d5b52", func := "crossway/crosswaylaw15.PathsPlays", spec := "pathsPlays", unfollowed := true, recurses := true, apart := false, narrowed := true }
def PathsPlaysUptoSaid : Prop := pathsPlaysUptoRow.holds Try.pinned (OpenSpec.upto pathsPlaysSpec)

/-- 'crosswaylaw15.PathsNone', WHERE WHAT IT READS IS OF BULK AT MOST 1048576: true; the input reads as it did. -/
def pathsNoneUptoRow : OpenClaim := { program := "ytnjknabighmedaa", sum := "f667f8530e929d9ef3946bd9f586d0a843673d2d406d93d8a80018d7a89d5b52", func := "crossway/crosswaylaw15.PathsNone", spec := "pathsNone", unfollowed := true, recurses := true, apart := false, narrowed := true }
def PathsNoneUptoSaid : Prop := pathsNoneUptoRow.holds Try.pinned (OpenSpec.upto pathsNoneSpec)

end Rows
end Go.Proofs.Ytnjknabighmedaa
