/- The pure part of GapsNone: the abstract machine evaluates. -/
import Derived.Test.YtmepflkodjdgdaaEnv
namespace Go.Proofs.Ytmepflkodjdgdaa.Vt
open Go Go.Proofs Go.Proofs.YtmepflkodjdgdaaV
set_option maxRecDepth 100000
set_option linter.unusedVariables false
theorem runGapsNone (σ : Store) (x0 : Value) (h0 : g27.G σ [x0]) : Gives env 11 [x0] σ (.bool true) := by
  obtain ⟨b0, q0, w0⟩ := h0
  cases q0
  exact gives_run (F := 10) (k := 10) (by kernel_rfl)
end Go.Proofs.Ytmepflkodjdgdaa.Vt
