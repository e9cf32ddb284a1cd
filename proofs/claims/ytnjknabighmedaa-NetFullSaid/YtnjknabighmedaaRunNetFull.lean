/- The pure part of NetFull: 300 are put, and no more; what is too much is counted. -/
import Derived.Test.YtnjknabighmedaaNg
namespace Go.Proofs.Ytnjknabighmedaa.Vt
open Go Go.Proofs Go.Proofs.YtnjknabighmedaaV
theorem runNetFull (n : Nat) (σ : Store) (hd : Dom n σ) (x0 : Value) (h0 : g3.G σ [x0]) : CQ Try.prog noDen 7 [x0] n σ (fun v _ _ => v = .bool true) := by
  obtain ⟨b0, q0, w0⟩ := h0
  cases q0
  exact CQ.ps hd (nLaw b0) fun _ _ => rfl
end Go.Proofs.Ytnjknabighmedaa.Vt
