/-
  No cell of these rows narrows 'for every input' (looked for: loops, veiled, ifaces, maps, wideKeys, modest, calm, conditions, laid).
  DERIVED. THE GIVEN ROWS OF THIS SEAT. 10 by the template 'for every input the law returns true; each argument reads behind the call as it read before'; 0 by the template 'total and deterministic' (their statements: YtmepflkodjdgdaaTotals.lean).
  GIVEN WITH THE SEED: the statements are not yours to turn. If you find one false, say at which input.
  Laid BY PROGRAM, IN A SANDBOX (cutbox-rows.mjs): the forced cells as the released guide's own fill.sh prints them over the translation 142221ab38e020ca… (all of the seat's roots in one cut). By AI agents, Wed Nov 11 2026. No macro, syntax, notation, axiom, sorry.
-/
import Derived.Test.YtmepflkodjdgdaaChecked
import GoSem.Claim
import GoSem.ClaimJoined
import GoSem.ClaimMapViews
import Derived.JoinedTies
import Derived.KernelRfl
namespace Go.Proofs.Ytmepflkodjdgdaa
/- THE CELL 'sum', in the pinned program and in every row, IS THE sha256 OF THE DUMP (.gsa) THAT YtmepflkodjdgdaaProg.lean LOADS. Nothing in Lean hashes anything: it is a label: what it is worth is what the hold of that sum in a sandbox is worth. -/
noncomputable def Try.pinned : Pinned := { name := "ytmepflkodjdgdaa", sum := "142221ab38e020ca5c9054fed653b82c023fe986575b91e7937fa78543ae28de", checked := Try.checked }
namespace Rows
def none {H : Type} : Left H := { results := [], args := [] }

/-- 'crosswaylaw18.DeliverOrder': WHATEVER THE INPUT: true; the input reads as it did. -/
def deliverOrderSpec : ChangeSpec := { name := "deliverOrder", fn := fun _ => fun
  | [d] => { results := [.lit (.bool true)], args := [d] }
  | _ => none }
def deliverOrderRow : OpenClaim := { program := "ytmepflkodjdgdaa", sum := "142221ab38e020ca5c9054fed653b82c023fe986575b91e7937fa78543ae28de", func := "crossway/crosswaylaw18.DeliverOrder", spec := "deliverOrder", unfollowed := true, recurses := true, apart := false }
def DeliverOrderSaid : Prop := deliverOrderRow.holds Try.pinned (OpenSpec.ofChange deliverOrderSpec)

/-- ITS FALSE NEIGHBOUR: 'it returns false'. Refute it at one input. -/
def deliverOrderWrong : ChangeSpec := { name := "deliverOrder", fn := fun _ => fun
  | [d] => { results := [.lit (.bool false)], args := [d] }
  | _ => none }
def DeliverOrderWrongFalsely : Prop := deliverOrderRow.holds Try.pinned (OpenSpec.ofChange deliverOrderWrong)

/-- 'crosswaylaw18.DeliverPlays': WHATEVER THE INPUT: true; the input reads as it did. -/
def deliverPlaysSpec : ChangeSpec := { name := "deliverPlays", fn := fun _ => fun
  | [d1, d2] => { results := [.lit (.bool true)], args := [d1, d2] }
  | _ => none }
def deliverPlaysRow : OpenClaim := { program := "ytmepflkodjdgdaa", sum := "142221ab38e020ca5c9054fed653b82c023fe986575b91e7937fa78543ae28de", func := "crossway/crosswaylaw18.DeliverPlays", spec := "deliverPlays", unfollowed := true, recurses := true, apart := false }
def DeliverPlaysSaid : Prop := deliverPlaysRow.holds Try.pinned (OpenSpec.ofChange deliverPlaysSpec)

/-- ITS FALSE NEIGHBOUR: 'it returns false'. Refute it at one input. -/
def deliverPlaysWrong : ChangeSpec := { name := "deliverPlays", fn := fun _ => fun
  | [d1, d2] => { results := [.lit (.bool false)], args := [d1, d2] }
  | _ => none }
def DeliverPlaysWrongFalsely : Prop := deliverPlaysRow.holds Try.pinned (OpenSpec.ofChange deliverPlaysWrong)

/-- 'crosswaylaw18.DeliverNone': WHATEVER THE INPUT: true; the input reads as it did. -/
def deliverNoneSpec : ChangeSpec := { name := "deliverNone", fn := fun _ => fun
  | [d1, d2] => { results := [.lit (.bool true)], args := [d1, d2] }
  | _ => none }
def deliverNoneRow : OpenClaim := { program := "ytmepflkodjdgdaa", sum := "142221ab38e020ca5c9054fed653b82c023fe986575b91e7937fa78543ae28de", func := "crossway/crosswaylaw18.DeliverNone", spec := "deliverNone", unfollowed := true, recurses := true, apart := false }
def DeliverNoneSaid : Prop := deliverNoneRow.holds Try.pinned (OpenSpec.ofChange deliverNoneSpec)

/-- ITS FALSE NEIGHBOUR: 'it returns false'. Refute it at one input. -/
def deliverNoneWrong : ChangeSpec := { name := "deliverNone", fn := fun _ => fun
  | [d1, d2] => { results := [.lit (.bool false)], args := [d1, d2] }
  | _ => none }
def DeliverNoneWrongFalsely : Prop := deliverNoneRow.holds Try.pinned (OpenSpec.ofChange deliverNoneWrong)

/-- 'crosswaylaw21.FlightFast': WHATEVER THE INPUT: true; the input reads as it did. -/
def flightFastSpec : ChangeSpec := { name := "flightFast", fn := fun _ => fun
  | [d1, d2] => { results := [.lit (.bool true)], args := [d1, d2] }
  | _ => none }
def flightFastRow : OpenClaim := { program := "ytmepflkodjdgdaa", sum := "142221ab38e020ca5c9054fed653b82c023fe986575b91e7937fa78543ae28de", func := "crossway/crosswaylaw21.FlightFast", spec := "flightFast", unfollowed := true, recurses := true, apart := false }
def FlightFastSaid : Prop := flightFastRow.holds Try.pinned (OpenSpec.ofChange flightFastSpec)

/-- ITS FALSE NEIGHBOUR: 'it returns false'. Refute it at one input. -/
def flightFastWrong : ChangeSpec := { name := "flightFast", fn := fun _ => fun
  | [d1, d2] => { results := [.lit (.bool false)], args := [d1, d2] }
  | _ => none }
def FlightFastWrongFalsely : Prop := flightFastRow.holds Try.pinned (OpenSpec.ofChange flightFastWrong)

/-- 'crosswaylaw17.ReasmPlays': WHATEVER THE INPUT: true; the input reads as it did. -/
def reasmPlaysSpec : ChangeSpec := { name := "reasmPlays", fn := fun _ => fun
  | [d1, d2] => { results := [.lit (.bool true)], args := [d1, d2] }
  | _ => none }
def reasmPlaysRow : OpenClaim := { program := "ytmepflkodjdgdaa", sum := "142221ab38e020ca5c9054fed653b82c023fe986575b91e7937fa78543ae28de", func := "crossway/crosswaylaw17.ReasmPlays", spec := "reasmPlays", inPlace := ["slices.overlaps[crossway/api.Chunk]"], unfollowed := true, recurses := true, apart := false }
def ReasmPlaysSaid : Prop := reasmPlaysRow.holds Try.pinned (OpenSpec.ofChange reasmPlaysSpec)

/-- ITS FALSE NEIGHBOUR: 'it returns false'. Refute it at one input. -/
def reasmPlaysWrong : ChangeSpec := { name := "reasmPlays", fn := fun _ => fun
  | [d1, d2] => { results := [.lit (.bool false)], args := [d1, d2] }
  | _ => none }
def ReasmPlaysWrongFalsely : Prop := reasmPlaysRow.holds Try.pinned (OpenSpec.ofChange reasmPlaysWrong)

/-- 'crosswaylaw17.ReasmNone': WHATEVER THE INPUT: true; the input reads as it did. -/
def reasmNoneSpec : ChangeSpec := { name := "reasmNone", fn := fun _ => fun
  | [d] => { results := [.lit (.bool true)], args := [d] }
  | _ => none }
def reasmNoneRow : OpenClaim := { program := "ytmepflkodjdgdaa", sum := "142221ab38e020ca5c9054fed653b82c023fe986575b91e7937fa78543ae28de", func := "crossway/crosswaylaw17.ReasmNone", spec := "reasmNone", inPlace := ["slices.overlaps[crossway/api.Chunk]"], unfollowed := true, recurses := true, apart := false }
def ReasmNoneSaid : Prop := reasmNoneRow.holds Try.pinned (OpenSpec.ofChange reasmNoneSpec)

/-- ITS FALSE NEIGHBOUR: 'it returns false'. Refute it at one input. -/
def reasmNoneWrong : ChangeSpec := { name := "reasmNone", fn := fun _ => fun
  | [d] => { results := [.lit (.bool false)], args := [d] }
  | _ => none }
def ReasmNoneWrongFalsely : Prop := reasmNoneRow.holds Try.pinned (OpenSpec.ofChange reasmNoneWrong)

/-- 'crosswaylaw16.GapsOrder': WHATEVER THE INPUT: true; the input reads as it did. -/
def gapsOrderSpec : ChangeSpec := { name := "gapsOrder", fn := fun _ => fun
  | [d1, d2] => { results := [.lit (.bool true)], args := [d1, d2] }
  | _ => none }
def gapsOrderRow : OpenClaim := { program := "ytmepflkodjdgdaa", sum := "142221ab38e020ca5c9054fed653b82c023fe986575b91e7937fa78543ae28de", func := "crossway/crosswaylaw16.GapsOrder", spec := "gapsOrder", inPlace := ["slices.overlaps[crossway/api.Gap]"], unfollowed := true, recurses := true, apart := false }
def GapsOrderSaid : Prop := gapsOrderRow.holds Try.pinned (OpenSpec.ofChange gapsOrderSpec)

/-- ITS FALSE NEIGHBOUR: 'it returns false'. Refute it at one input. -/
def gapsOrderWrong : ChangeSpec := { name := "gapsOrder", fn := fun _ => fun
  | [d1, d2] => { results := [.lit (.bool false)], args := [d1, d2] }
  | _ => none }
def GapsOrderWrongFalsely : Prop := gapsOrderRow.holds Try.pinned (OpenSpec.ofChange gapsOrderWrong)

/-- 'crosswaylaw16.GapsPlays': WHATEVER THE INPUT: true; the input reads as it did. -/
def gapsPlaysSpec : ChangeSpec := { name := "gapsPlays", fn := fun _ => fun
  | [d1, d2, d3] => { results := [.lit (.bool true)], args := [d1, d2, d3] }
  | _ => none }
def gapsPlaysRow : OpenClaim := { program := "ytmepflkodjdgdaa", sum := "142221ab38e020ca5c9054fed653b82c023fe986575b91e7937fa78543ae28de", func := "crossway/crosswaylaw16.GapsPlays", spec := "gapsPlays", inPlace := ["slices.overlaps[crossway/api.Gap]"], unfollowed := true, recurses := true, apart := false }
def GapsPlaysSaid : Prop := gapsPlaysRow.holds Try.pinned (OpenSpec.ofChange gapsPlaysSpec)

/-- ITS FALSE NEIGHBOUR: 'it returns false'. Refute it at one input. -/
def gapsPlaysWrong : ChangeSpec := { name := "gapsPlays", fn := fun _ => fun
  | [d1, d2, d3] => { results := [.lit (.bool false)], args := [d1, d2, d3] }
  | _ => none }
def GapsPlaysWrongFalsely : Prop := gapsPlaysRow.holds Try.pinned (OpenSpec.ofChange gapsPlaysWrong)

/-- 'crosswaylaw16.GapsNone': WHATEVER THE INPUT: true; the input reads as it did. -/
def gapsNoneSpec : ChangeSpec := { name := "gapsNone", fn := fun _ => fun
  | [d] => { results := [.lit (.bool true)], args := [d] }
  | _ => none }
def gapsNoneRow : OpenClaim := { program := "ytmepflkodjdgdaa", sum := "142221ab38e020ca5c9054fed653b82c023fe986575b91e7937fa78543ae28de", func := "crossway/crosswaylaw16.GapsNone", spec := "gapsNone", inPlace := ["slices.overlaps[crossway/api.Gap]"], unfollowed := true, recurses := true, apart := false }
def GapsNoneSaid : Prop := gapsNoneRow.holds Try.pinned (OpenSpec.ofChange gapsNoneSpec)

/-- ITS FALSE NEIGHBOUR: 'it returns false'. Refute it at one input. -/
def gapsNoneWrong : ChangeSpec := { name := "gapsNone", fn := fun _ => fun
  | [d] => { results := [.lit (.bool false)], args := [d] }
  | _ => none }
def GapsNoneWrongFalsely : Prop := gapsNoneRow.holds Try.pinned (OpenSpec.ofChange gapsNoneWrong)

/-- 'crosswaylaw21.FlightNone': WHATEVER THE INPUT: true; the input reads as it did. -/
def flightNoneSpec : ChangeSpec := { name := "flightNone", fn := fun _ => fun
  | [d1, d2] => { results := [.lit (.bool true)], args := [d1, d2] }
  | _ => none }
def flightNoneRow : OpenClaim := { program := "ytmepflkodjdgdaa", sum := "142221ab38e020ca5c9054fed653b82c023fe986575b91e7937fa78543ae28de", func := "crossway/crosswaylaw21.FlightNone", spec := "flightNone", unfollowed := true, recurses := true, apart := false }
def FlightNoneSaid : Prop := flightNoneRow.holds Try.pinned (OpenSpec.ofChange flightNoneSpec)

/-- ITS FALSE NEIGHBOUR: 'it returns false'. Refute it at one input. -/
def flightNoneWrong : ChangeSpec := { name := "flightNone", fn := fun _ => fun
  | [d1, d2] => { results := [.lit (.bool false)], args := [d1, d2] }
  | _ => none }
def FlightNoneWrongFalsely : Prop := flightNoneRow.holds Try.pinned (OpenSpec.ofChange flightNoneWrong)

/- THE SECOND FORM. 'bulk': how many values and letters a reading holds, each counted each time it is reached (what is shared counts as often as it is met; a slice's spare places count too). A statement '..UptoSaid' is the law's where the arguments, and the package variables that the reading takes, are together of bulk at most 1048576: NARROWER than '..Said'. Prove '..Said' where nothing that the law and all that it calls make is longer than what came in: it says more and counts as full. Else prove '..UptoSaid'. A law counts once. -/
mutual
def uptoBulk {H : Type} : DataW H → Nat
  | .lit (.string bytes) => bytes.length + 1
  | .lit _ => 1
  | .nil => 1
  | .ptr d => uptoBulk d + 1
  | .slice elems spare => uptoBulkAll elems + uptoBulkAll spare + 1
  | .agg parts => uptoBulkAll parts + 1
  | .iface _ d => uptoBulk d + 1
  | .map entries => uptoBulkEntries entries + 1
  | .held _ => 1
def uptoBulkAll {H : Type} : List (DataW H) → Nat
  | [] => 0
  | d :: r => uptoBulk d + uptoBulkAll r
def uptoBulkEntries {H : Type} : List (Lit × DataW H) → Nat
  | [] => 0
  | x :: r => uptoBulkEntry x + uptoBulkEntries r
def uptoBulkEntry {H : Type} : Lit × DataW H → Nat
  | (.string bytes, d) => bytes.length + uptoBulk d + 1
  | (_, d) => uptoBulk d + 1
 end
def uptoSmall : (H : Type) → List (DataW H) → Bool := fun _ ds => decide (uptoBulkAll ds ≤ 1048576)
def OpenSpec.upto (s : _root_.Go.ChangeSpec) : _root_.Go.OpenSpec := { _root_.Go.OpenSpec.ofChange s with cond := some uptoSmall }

/-- 'crosswaylaw18.DeliverOrder', WHERE WHAT IT READS IS OF BULK AT MOST 1048576: true; the input reads as it did. -/
def deliverOrderUptoRow : OpenClaim := { program := "ytmepflkodjdgdaa", sum := "142221ab38e020ca5c9054fed653b82c023fe986575b91e7937fa78543ae28de", func := "crossway/crosswaylaw18.DeliverOrder", spec := "deliverOrder", unfollowed := true, recurses := true, apart := false, narrowed := true }
def DeliverOrderUptoSaid : Prop := deliverOrderUptoRow.holds Try.pinned (OpenSpec.upto deliverOrderSpec)

/-- 'crosswaylaw18.DeliverPlays', WHERE WHAT IT READS IS OF BULK AT MOST 1048576: true; the input reads as it did. -/
def deliverPlaysUptoRow : OpenClaim := { program := "ytmepflkodjdgdaa", sum := "142221ab38e020ca5c9054fed653b82c023fe986575b91e7937fa78543ae28de", func := "crossway/crosswaylaw18.DeliverPlays", spec := "deliverPlays", unfollowed := true, recurses := true, apart := false, narrowed := true }
def DeliverPlaysUptoSaid : Prop := deliverPlaysUptoRow.holds Try.pinned (OpenSpec.upto deliverPlaysSpec)

/-- 'crosswaylaw18.DeliverNone', WHERE WHAT IT READS IS OF BULK AT MOST 1048576: true; the input reads as it did. -/
def deliverNoneUptoRow : OpenClaim := { program := "ytmepflkodjdgdaa", sum := "142221ab38e020ca5c9054fed653b82c023fe986575b91e7937fa78543ae28de", func := "crossway/crosswaylaw18.DeliverNone", spec := "deliverNone", unfollowed := true, recurses := true, apart := false, narrowed := true }
def DeliverNoneUptoSaid : Prop := deliverNoneUptoRow.holds Try.pinned (OpenSpec.upto deliverNoneSpec)

/-- 'crosswaylaw21.FlightFast', WHERE WHAT IT READS IS OF BULK AT MOST 1048576: true; the input reads as it did. -/
def flightFastUptoRow : OpenClaim := { program := "ytmepflkodjdgdaa", sum := "142221ab38e020ca5c9054fed653b82c023fe986575b91e7937fa78543ae28de", func := "crossway/crosswaylaw21.FlightFast", spec := "flightFast", unfollowed := true, recurses := true, apart := false, narrowed := true }
def FlightFastUptoSaid : Prop := flightFastUptoRow.holds Try.pinned (OpenSpec.upto flightFastSpec)

/-- 'crosswaylaw17.ReasmPlays', WHERE WHAT IT READS IS OF BULK AT MOST 1048576: true; the input reads as it did. -/
def reasmPlaysUptoRow : OpenClaim := { program := "ytmepflkodjdgdaa", sum := "142221ab38e020ca5c9054fed653b82c023fe986575b91e7937fa78543ae28de", func := "crossway/crosswaylaw17.ReasmPlays", spec := "reasmPlays", inPlace := ["slices.overlaps[crossway/api.Chunk]"], unfollowed := true, recurses := true, apart := false, narrowed := true }
def ReasmPlaysUptoSaid : Prop := reasmPlaysUptoRow.holds Try.pinned (OpenSpec.upto reasmPlaysSpec)

/-- 'crosswaylaw17.ReasmNone', WHERE WHAT IT READS IS OF BULK AT MOST 1048576: true; the input reads as it did. -/
def reasmNoneUptoRow : OpenClaim := { program := "ytmepflkodjdgdaa", sum := "142221ab38e020ca5c9054fed653b82c023fe986575b91e7937fa78543ae28de", func := "crossway/crosswaylaw17.ReasmNone", spec := "reasmNone", inPlace := ["slices.overlaps[crossway/api.Chunk]"], unfollowed := true, recurses := true, apart := false, narrowed := true }
def ReasmNoneUptoSaid : Prop := reasmNoneUptoRow.holds Try.pinned (OpenSpec.upto reasmNoneSpec)

/-- 'crosswaylaw16.GapsOrder', WHERE WHAT IT READS IS OF BULK AT MOST 1048576: true; the input reads as it did. -/
def gapsOrderUptoRow : OpenClaim := { program := "ytmepflkodjdgdaa", sum := "142221ab38e020ca5c9054fed653b82c023fe986575b91e7937fa78543ae28de", func := "crossway/crosswaylaw16.GapsOrder", spec := "gapsOrder", inPlace := ["slices.overlaps[crossway/api.Gap]"], unfollowed := true, recurses := true, apart := false, narrowed := true }
def GapsOrderUptoSaid : Prop := gapsOrderUptoRow.holds Try.pinned (OpenSpec.upto gapsOrderSpec)

/-- 'crosswaylaw16.GapsPlays', WHERE WHAT IT READS IS OF BULK AT MOST 1048576: true; the input reads as it did. -/
def gapsPlaysUptoRow : OpenClaim := { program := "ytmepflkodjdgdaa", sum := "142221ab38e020ca5c9054fed653b82c023fe986575b91e7937fa78543ae28de", func := "crossway/crosswaylaw16.GapsPlays", spec := "gapsPlays", inPlace := ["slices.overlaps[crossway/api.Gap]"], unfollowed := true, recurses := true, apart := false, narrowed := true }
def GapsPlaysUptoSaid : Prop := gapsPlaysUptoRow.holds Try.pinned (OpenSpec.upto gapsPlaysSpec)

/-- 'crosswaylaw16.GapsNone', WHERE WHAT IT READS IS OF BULK AT MOST 1048576: true; the input reads as it did. -/
def gapsNoneUptoRow : OpenClaim := { program := "ytmepflkodjdgdaa", sum := "142221ab38e020ca5c9054fed653b82c023fe986575b91e7937fa78543ae28de", func := "crossway/crosswaylaw16.GapsNone", spec := "gapsNone", inPlace := ["slices.overlaps[crossway/api.Gap]"], unfollowed := true, recurses := true, apart := false, narrowed := true }
def GapsNoneUptoSaid : Prop := gapsNoneUptoRow.holds Try.pinned (OpenSpec.upto gapsNoneSpec)

/-- 'crosswaylaw21.FlightNone', WHERE WHAT IT READS IS OF BULK AT MOST 1048576: true; the input reads as it did. -/
def flightNoneUptoRow : OpenClaim := { program := "ytmepflkodjdgdaa", sum := "142221ab38e020ca5c9054fed653b82c023fe986575b91e7937fa78543ae28de", func := "crossway/crosswaylaw21.FlightNone", spec := "flightNone", unfollowed := true, recurses := true, apart := false, narrowed := true }
def FlightNoneUptoSaid : Prop := flightNoneUptoRow.holds Try.pinned (OpenSpec.upto flightNoneSpec)

end Rows
end Go.Proofs.Ytmepflkodjdgdaa
