/-
  No cell of these rows narrows 'for every input' (looked for: loops, veiled, ifaces, maps, wideKeys, modest, calm, conditions, laid).
  DERIVED. THE GIVEN ROWS OF THIS SEAT. 11 by the template 'for every input the law returns true; each argument reads behind the call as it read before'; 0 by the template 'total and deterministic' (their statements: YtdnkhdkflemkeaaTotals.lean).
  GIVEN WITH THE SEED: the statements are not yours to turn. If you find one false, say at which input.
  Laid BY PROGRAM, IN A SANDBOX (cutbox-rows.mjs): the forced cells as the released guide's own fill.sh prints them over the translation cf1d50c7202e3468… (all of the seat's roots in one cut). By AI agents, Wed Nov 11 2026. No macro, syntax, notation, axiom, sorry.
-/
import Derived.Test.YtdnkhdkflemkeaaChecked
import GoSem.Claim
import GoSem.ClaimJoined
import GoSem.ClaimMapViews
import Derived.JoinedTies
import Derived.KernelRfl
namespace Go.Proofs.Ytdnkhdkflemkeaa
/- THE CELL 'sum', in the pinned program and in every row, IS THE sha256 OF THE DUMP (.gsa) THAT YtdnkhdkflemkeaaProg.lean LOADS. Nothing in Lean hashes anything: it is a label: what it is worth is what the hold of that sum in a sandbox is worth. -/
noncomputable def Try.pinned : Pinned := { name := "ytdnkhdkflemkeaa", sum := "cf1d50c7202e346849bb0ffd4f621adcc1d54baf3f0cf02c12d38059cb356ea0", checked := Try.checked }
namespace Rows
def none {H : Type} : Left H := { results := [], args := [] }

/-- 'crosswaylaw08.DigestOf': WHATEVER THE INPUT: true; the input reads as it did. -/
def digestOfSpec : ChangeSpec := { name := "digestOf", fn := fun _ => fun
  | [d] => { results := [.lit (.bool true)], args := [d] }
  | _ => none }
def digestOfRow : OpenClaim := { program := "ytdnkhdkflemkeaa", sum := "cf1d50c7202e346849bb0ffd4f621adcc1d54baf3f0cf02c12d38059cb356ea0", func := "crossway/crosswaylaw08.DigestOf", spec := "digestOf", recurses := true, apart := false }
def DigestOfSaid : Prop := digestOfRow.holds Try.pinned (OpenSpec.ofChange digestOfSpec)

/-- ITS FALSE NEIGHBOUR: 'it returns false'. Refute it at one input. -/
def digestOfWrong : ChangeSpec := { name := "digestOf", fn := fun _ => fun
  | [d] => { results := [.lit (.bool false)], args := [d] }
  | _ => none }
def DigestOfWrongFalsely : Prop := digestOfRow.holds Try.pinned (OpenSpec.ofChange digestOfWrong)

/-- 'crosswaylaw08.DigestLong': WHATEVER THE INPUT: true; the input reads as it did. -/
def digestLongSpec : ChangeSpec := { name := "digestLong", fn := fun _ => fun
  | [d1, d2] => { results := [.lit (.bool true)], args := [d1, d2] }
  | _ => none }
def digestLongRow : OpenClaim := { program := "ytdnkhdkflemkeaa", sum := "cf1d50c7202e346849bb0ffd4f621adcc1d54baf3f0cf02c12d38059cb356ea0", func := "crossway/crosswaylaw08.DigestLong", spec := "digestLong", recurses := true, apart := false }
def DigestLongSaid : Prop := digestLongRow.holds Try.pinned (OpenSpec.ofChange digestLongSpec)

/-- ITS FALSE NEIGHBOUR: 'it returns false'. Refute it at one input. -/
def digestLongWrong : ChangeSpec := { name := "digestLong", fn := fun _ => fun
  | [d1, d2] => { results := [.lit (.bool false)], args := [d1, d2] }
  | _ => none }
def DigestLongWrongFalsely : Prop := digestLongRow.holds Try.pinned (OpenSpec.ofChange digestLongWrong)

/-- 'crosswaylaw09.MacOf': WHATEVER THE INPUT: true; the input reads as it did. -/
def macOfSpec : ChangeSpec := { name := "macOf", fn := fun _ => fun
  | [d1, d2] => { results := [.lit (.bool true)], args := [d1, d2] }
  | _ => none }
def macOfRow : OpenClaim := { program := "ytdnkhdkflemkeaa", sum := "cf1d50c7202e346849bb0ffd4f621adcc1d54baf3f0cf02c12d38059cb356ea0", func := "crossway/crosswaylaw09.MacOf", spec := "macOf", recurses := true, apart := false }
def MacOfSaid : Prop := macOfRow.holds Try.pinned (OpenSpec.ofChange macOfSpec)

/-- ITS FALSE NEIGHBOUR: 'it returns false'. Refute it at one input. -/
def macOfWrong : ChangeSpec := { name := "macOf", fn := fun _ => fun
  | [d1, d2] => { results := [.lit (.bool false)], args := [d1, d2] }
  | _ => none }
def MacOfWrongFalsely : Prop := macOfRow.holds Try.pinned (OpenSpec.ofChange macOfWrong)

/-- 'crosswaylaw09.MacIs': WHATEVER THE INPUT: true; the input reads as it did. -/
def macIsSpec : ChangeSpec := { name := "macIs", fn := fun _ => fun
  | [d1, d2, d3] => { results := [.lit (.bool true)], args := [d1, d2, d3] }
  | _ => none }
def macIsRow : OpenClaim := { program := "ytdnkhdkflemkeaa", sum := "cf1d50c7202e346849bb0ffd4f621adcc1d54baf3f0cf02c12d38059cb356ea0", func := "crossway/crosswaylaw09.MacIs", spec := "macIs", recurses := true, apart := false }
def MacIsSaid : Prop := macIsRow.holds Try.pinned (OpenSpec.ofChange macIsSpec)

/-- ITS FALSE NEIGHBOUR: 'it returns false'. Refute it at one input. -/
def macIsWrong : ChangeSpec := { name := "macIs", fn := fun _ => fun
  | [d1, d2, d3] => { results := [.lit (.bool false)], args := [d1, d2, d3] }
  | _ => none }
def MacIsWrongFalsely : Prop := macIsRow.holds Try.pinned (OpenSpec.ofChange macIsWrong)

/-- 'crosswaylaw09.MacBytes': WHATEVER THE INPUT: true; the input reads as it did. -/
def macBytesSpec : ChangeSpec := { name := "macBytes", fn := fun _ => fun
  | [d1, d2, d3] => { results := [.lit (.bool true)], args := [d1, d2, d3] }
  | _ => none }
def macBytesRow : OpenClaim := { program := "ytdnkhdkflemkeaa", sum := "cf1d50c7202e346849bb0ffd4f621adcc1d54baf3f0cf02c12d38059cb356ea0", func := "crossway/crosswaylaw09.MacBytes", spec := "macBytes", apart := false }
def MacBytesSaid : Prop := macBytesRow.holds Try.pinned (OpenSpec.ofChange macBytesSpec)

/-- ITS FALSE NEIGHBOUR: 'it returns false'. Refute it at one input. -/
def macBytesWrong : ChangeSpec := { name := "macBytes", fn := fun _ => fun
  | [d1, d2, d3] => { results := [.lit (.bool false)], args := [d1, d2, d3] }
  | _ => none }
def MacBytesWrongFalsely : Prop := macBytesRow.holds Try.pinned (OpenSpec.ofChange macBytesWrong)

/-- 'crosswaylaw10.CookiePuts': WHATEVER THE INPUT: true; the input reads as it did. -/
def cookiePutsSpec : ChangeSpec := { name := "cookiePuts", fn := fun _ => fun
  | [d1, d2, d3] => { results := [.lit (.bool true)], args := [d1, d2, d3] }
  | _ => none }
def cookiePutsRow : OpenClaim := { program := "ytdnkhdkflemkeaa", sum := "cf1d50c7202e346849bb0ffd4f621adcc1d54baf3f0cf02c12d38059cb356ea0", func := "crossway/crosswaylaw10.CookiePuts", spec := "cookiePuts", recurses := true, apart := false }
def CookiePutsSaid : Prop := cookiePutsRow.holds Try.pinned (OpenSpec.ofChange cookiePutsSpec)

/-- ITS FALSE NEIGHBOUR: 'it returns false'. Refute it at one input. -/
def cookiePutsWrong : ChangeSpec := { name := "cookiePuts", fn := fun _ => fun
  | [d1, d2, d3] => { results := [.lit (.bool false)], args := [d1, d2, d3] }
  | _ => none }
def CookiePutsWrongFalsely : Prop := cookiePutsRow.holds Try.pinned (OpenSpec.ofChange cookiePutsWrong)

/-- 'crosswaylaw10.CookieGets': WHATEVER THE INPUT: true; the input reads as it did. -/
def cookieGetsSpec : ChangeSpec := { name := "cookieGets", fn := fun _ => fun
  | [d1, d2, d3] => { results := [.lit (.bool true)], args := [d1, d2, d3] }
  | _ => none }
def cookieGetsRow : OpenClaim := { program := "ytdnkhdkflemkeaa", sum := "cf1d50c7202e346849bb0ffd4f621adcc1d54baf3f0cf02c12d38059cb356ea0", func := "crossway/crosswaylaw10.CookieGets", spec := "cookieGets", recurses := true, apart := false }
def CookieGetsSaid : Prop := cookieGetsRow.holds Try.pinned (OpenSpec.ofChange cookieGetsSpec)

/-- ITS FALSE NEIGHBOUR: 'it returns false'. Refute it at one input. -/
def cookieGetsWrong : ChangeSpec := { name := "cookieGets", fn := fun _ => fun
  | [d1, d2, d3] => { results := [.lit (.bool false)], args := [d1, d2, d3] }
  | _ => none }
def CookieGetsWrongFalsely : Prop := cookieGetsRow.holds Try.pinned (OpenSpec.ofChange cookieGetsWrong)

/-- 'crosswaylaw10.CookieBent': WHATEVER THE INPUT: true; the input reads as it did. -/
def cookieBentSpec : ChangeSpec := { name := "cookieBent", fn := fun _ => fun
  | [d1, d2, d3] => { results := [.lit (.bool true)], args := [d1, d2, d3] }
  | _ => none }
def cookieBentRow : OpenClaim := { program := "ytdnkhdkflemkeaa", sum := "cf1d50c7202e346849bb0ffd4f621adcc1d54baf3f0cf02c12d38059cb356ea0", func := "crossway/crosswaylaw10.CookieBent", spec := "cookieBent", apart := false }
def CookieBentSaid : Prop := cookieBentRow.holds Try.pinned (OpenSpec.ofChange cookieBentSpec)

/-- ITS FALSE NEIGHBOUR: 'it returns false'. Refute it at one input. -/
def cookieBentWrong : ChangeSpec := { name := "cookieBent", fn := fun _ => fun
  | [d1, d2, d3] => { results := [.lit (.bool false)], args := [d1, d2, d3] }
  | _ => none }
def CookieBentWrongFalsely : Prop := cookieBentRow.holds Try.pinned (OpenSpec.ofChange cookieBentWrong)

/-- 'crosswaylaw27.AuthSigns': WHATEVER THE INPUT: true; the input reads as it did. -/
def authSignsSpec : ChangeSpec := { name := "authSigns", fn := fun _ => fun
  | [d1, d2] => { results := [.lit (.bool true)], args := [d1, d2] }
  | _ => none }
def authSignsRow : OpenClaim := { program := "ytdnkhdkflemkeaa", sum := "cf1d50c7202e346849bb0ffd4f621adcc1d54baf3f0cf02c12d38059cb356ea0", func := "crossway/crosswaylaw27.AuthSigns", spec := "authSigns", recurses := true, apart := false }
def AuthSignsSaid : Prop := authSignsRow.holds Try.pinned (OpenSpec.ofChange authSignsSpec)

/-- ITS FALSE NEIGHBOUR: 'it returns false'. Refute it at one input. -/
def authSignsWrong : ChangeSpec := { name := "authSigns", fn := fun _ => fun
  | [d1, d2] => { results := [.lit (.bool false)], args := [d1, d2] }
  | _ => none }
def AuthSignsWrongFalsely : Prop := authSignsRow.holds Try.pinned (OpenSpec.ofChange authSignsWrong)

/-- 'crosswaylaw27.AuthPasses': WHATEVER THE INPUT: true; the input reads as it did. -/
def authPassesSpec : ChangeSpec := { name := "authPasses", fn := fun _ => fun
  | [d1, d2, d3] => { results := [.lit (.bool true)], args := [d1, d2, d3] }
  | _ => none }
def authPassesRow : OpenClaim := { program := "ytdnkhdkflemkeaa", sum := "cf1d50c7202e346849bb0ffd4f621adcc1d54baf3f0cf02c12d38059cb356ea0", func := "crossway/crosswaylaw27.AuthPasses", spec := "authPasses", recurses := true, apart := false }
def AuthPassesSaid : Prop := authPassesRow.holds Try.pinned (OpenSpec.ofChange authPassesSpec)

/-- ITS FALSE NEIGHBOUR: 'it returns false'. Refute it at one input. -/
def authPassesWrong : ChangeSpec := { name := "authPasses", fn := fun _ => fun
  | [d1, d2, d3] => { results := [.lit (.bool false)], args := [d1, d2, d3] }
  | _ => none }
def AuthPassesWrongFalsely : Prop := authPassesRow.holds Try.pinned (OpenSpec.ofChange authPassesWrong)

/-- 'crosswaylaw27.AuthKey': WHATEVER THE INPUT: true; the input reads as it did. -/
def authKeySpec : ChangeSpec := { name := "authKey", fn := fun _ => fun
  | [d1, d2] => { results := [.lit (.bool true)], args := [d1, d2] }
  | _ => none }
def authKeyRow : OpenClaim := { program := "ytdnkhdkflemkeaa", sum := "cf1d50c7202e346849bb0ffd4f621adcc1d54baf3f0cf02c12d38059cb356ea0", func := "crossway/crosswaylaw27.AuthKey", spec := "authKey", apart := false }
def AuthKeySaid : Prop := authKeyRow.holds Try.pinned (OpenSpec.ofChange authKeySpec)

/-- ITS FALSE NEIGHBOUR: 'it returns false'. Refute it at one input. -/
def authKeyWrong : ChangeSpec := { name := "authKey", fn := fun _ => fun
  | [d1, d2] => { results := [.lit (.bool false)], args := [d1, d2] }
  | _ => none }
def AuthKeyWrongFalsely : Prop := authKeyRow.holds Try.pinned (OpenSpec.ofChange authKeyWrong)

/- THE SECOND FORM. 'bulk': how many values and letters a reading holds, each counted each time it is reached (what is shared counts as often as it is met; a slice's spare places count too). A statement '..UptoSaid' is the law's where the arguments, and the package variables that the reading takes, are together of bulk at most 1048576: NARROWER than '..Said'. Prove '..Said' where nothing that the law and all that it calls make is longer than what came in: it says more and counts as full. Else prove '..UptoSaid'. A law counts once. -/
mutual
def uptoBulk {H : Type} : DataW H → Nat
  | .lit (.string bytes) => bytes.length + 1
  | .lit _ => 1
  | .nil => 1
  | .ptr d => uptoBulk d + 1
  | .slice elems spare => uptoBulkAll elems + uptoBulkAll spare + 1
  | .agg parts => uptoBulkAll parts + 1
  | .iface _ d => uptoBulk d + 1
  | .map entries => uptoBulkEntries entries + 1
  | .held _ => 1
def uptoBulkAll {H : Type} : List (DataW H) → Nat
  | [] => 0
  | d :: r => uptoBulk d + uptoBulkAll r
def uptoBulkEntries {H : Type} : List (Lit × DataW H) → Nat
  | [] => 0
  | x :: r => uptoBulkEntry x + uptoBulkEntries r
def uptoBulkEntry {H : Type} : Lit × DataW H → Nat
  | (.string bytes, d) => bytes.length + uptoBulk d + 1
  | (_, d) => uptoBulk d + 1
 end
def uptoSmall : (H : Type) → List (DataW H) → Bool := fun _ ds => decide (uptoBulkAll ds ≤ 1048576)
def OpenSpec.upto (s : _root_.Go.ChangeSpec) : _root_.Go.OpenSpec := { _root_.Go.OpenSpec.ofChange s with cond := some uptoSmall }

/-- 'crosswaylaw08.DigestOf', WHERE WHAT IT READS IS OF BULK AT MOST 1048576: true; the input reads as it did. -/
def digestOfUptoRow : OpenClaim := { program := "ytdnkhdkflemkeaa", sum := "cf1d50c7202e346849bb0ffd4f621adcc1d54baf3f0cf02c12d38059cb356ea0", func := "crossway/crosswaylaw08.DigestOf", spec := "digestOf", recurses := true, apart := false, narrowed := true }
def DigestOfUptoSaid : Prop := digestOfUptoRow.holds Try.pinned (OpenSpec.upto digestOfSpec)

/-- 'crosswaylaw08.DigestLong', WHERE WHAT IT READS IS OF BULK AT MOST 1048576: true; the input reads as it did. -/
def digestLongUptoRow : OpenClaim := { program := "ytdnkhdkflemkeaa", sum := "cf1d50c7202e346849bb0ffd4f621adcc1d54baf3f0cf02c12d38059cb356ea0", func := "crossway/crosswaylaw08.DigestLong", spec := "digestLong", recurses := true, apart := false, narrowed := true }
def DigestLongUptoSaid : Prop := digestLongUptoRow.holds Try.pinned (OpenSpec.upto digestLongSpec)

/-- 'crosswaylaw09.MacOf', WHERE WHAT IT READS IS OF BULK AT MOST 1048576: true; the input reads as it did. -/
def macOfUptoRow : OpenClaim := { program := "ytdnkhdkflemkeaa", sum := "cf1d50c7202e346849bb0ffd4f621adcc1d54baf3f0cf02c12d38059cb356ea0", func := "crossway/crosswaylaw09.MacOf", spec := "macOf", recurses := true, apart := false, narrowed := true }
def MacOfUptoSaid : Prop := macOfUptoRow.holds Try.pinned (OpenSpec.upto macOfSpec)

/-- 'crosswaylaw09.MacIs', WHERE WHAT IT READS IS OF BULK AT MOST 1048576: true; the input reads as it did. -/
def macIsUptoRow : OpenClaim := { program := "ytdnkhdkflemkeaa", sum := "cf1d50c7202e346849bb0ffd4f621adcc1d54baf3f0cf02c12d38059cb356ea0", func := "crossway/crosswaylaw09.MacIs", spec := "macIs", recurses := true, apart := false, narrowed := true }
def MacIsUptoSaid : Prop := macIsUptoRow.holds Try.pinned (OpenSpec.upto macIsSpec)

/-- 'crosswaylaw09.MacBytes', WHERE WHAT IT READS IS OF BULK AT MOST 1048576: true; the input reads as it did. -/
def macBytesUptoRow : OpenClaim := { program := "ytdnkhdkflemkeaa", sum := "cf1d50c7202e346849bb0ffd4f621adcc1d54baf3f0cf02c12d38059cb356ea0", func := "crossway/crosswaylaw09.MacBytes", spec := "macBytes", apart := false, narrowed := true }
def MacBytesUptoSaid : Prop := macBytesUptoRow.holds Try.pinned (OpenSpec.upto macBytesSpec)

/-- 'crosswaylaw10.CookiePuts', WHERE WHAT IT READS IS OF BULK AT MOST 1048576: true; the input reads as it did. -/
def cookiePutsUptoRow : OpenClaim := { program := "ytdnkhdkflemkeaa", sum := "cf1d50c7202e346849bb0ffd4f621adcc1d54baf3f0cf02c12d38059cb356ea0", func := "crossway/crosswaylaw10.CookiePuts", spec := "cookiePuts", recurses := true, apart := false, narrowed := true }
def CookiePutsUptoSaid : Prop := cookiePutsUptoRow.holds Try.pinned (OpenSpec.upto cookiePutsSpec)

/-- 'crosswaylaw10.CookieGets', WHERE WHAT IT READS IS OF BULK AT MOST 1048576: true; the input reads as it did. -/
def cookieGetsUptoRow : OpenClaim := { program := "ytdnkhdkflemkeaa", sum := "cf1d50c7202e346849bb0ffd4f621adcc1d54baf3f0cf02c12d38059cb356ea0", func := "crossway/crosswaylaw10.CookieGets", spec := "cookieGets", recurses := true, apart := false, narrowed := true }
def CookieGetsUptoSaid : Prop := cookieGetsUptoRow.holds Try.pinned (OpenSpec.upto cookieGetsSpec)

/-- 'crosswaylaw10.CookieBent', WHERE WHAT IT READS IS OF BULK AT MOST 1048576: true; the input reads as it did. -/
def cookieBentUptoRow : OpenClaim := { program := "ytdnkhdkflemkeaa", sum := "cf1d50c7202e346849bb0ffd4f621adcc1d54baf3f0cf02c12d38059cb356ea0", func := "crossway/crosswaylaw10.CookieBent", spec := "cookieBent", apart := false, narrowed := true }
def CookieBentUptoSaid : Prop := cookieBentUptoRow.holds Try.pinned (OpenSpec.upto cookieBentSpec)

/-- 'crosswaylaw27.AuthSigns', WHERE WHAT IT READS IS OF BULK AT MOST 1048576: true; the input reads as it did. -/
def authSignsUptoRow : OpenClaim := { program := "ytdnkhdkflemkeaa", sum := "cf1d50c7202e346849bb0ffd4f621adcc1d54baf3f0cf02c12d38059cb356ea0", func := "crossway/crosswaylaw27.AuthSigns", spec := "authSigns", recurses := true, apart := false, narrowed := true }
def AuthSignsUptoSaid : Prop := authSignsUptoRow.holds Try.pinned (OpenSpec.upto authSignsSpec)

/-- 'crosswaylaw27.AuthPasses', WHERE WHAT IT READS IS OF BULK AT MOST 1048576: true; the input reads as it did. -/
def authPassesUptoRow : OpenClaim := { program := "ytdnkhdkflemkeaa", sum := "cf1d50c7202e346849bb0ffd4f621adcc1d54baf3f0cf02c12d38059cb356ea0", func := "crossway/crosswaylaw27.AuthPasses", spec := "authPasses", recurses := true, apart := false, narrowed := true }
def AuthPassesUptoSaid : Prop := authPassesUptoRow.holds Try.pinned (OpenSpec.upto authPassesSpec)

/-- 'crosswaylaw27.AuthKey', WHERE WHAT IT READS IS OF BULK AT MOST 1048576: true; the input reads as it did. -/
def authKeyUptoRow : OpenClaim := { program := "ytdnkhdkflemkeaa", sum := "cf1d50c7202e346849bb0ffd4f621adcc1d54baf3f0cf02c12d38059cb356ea0", func := "crossway/crosswaylaw27.AuthKey", spec := "authKey", apart := false, narrowed := true }
def AuthKeyUptoSaid : Prop := authKeyUptoRow.holds Try.pinned (OpenSpec.upto authKeySpec)

end Rows
end Go.Proofs.Ytdnkhdkflemkeaa
