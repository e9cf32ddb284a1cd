/- The pure part of TraceReads. -/
import Derived.Test.YtgajcmanompmcaaTr4
namespace Go.Proofs.Ytgajcmanompmcaa.Vt
open Go Go.Proofs Go.Proofs.YtgajcmanompmcaaV
theorem runTraceReads (n : Nat) (σ : Store) (hd : Dom n σ) (x0 : Value) (h0 : g9.G σ [x0]) : CQ Try.prog noDen 4 [x0] n σ (fun v _ _ => v = .bool true) := by
  obtain ⟨b0, q0, w0⟩ := h0
  cases q0
  exact CQ.ps hd (tReads b0) fun _ _ => rfl
end Go.Proofs.Ytgajcmanompmcaa.Vt
