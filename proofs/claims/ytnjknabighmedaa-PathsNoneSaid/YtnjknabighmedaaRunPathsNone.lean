/- The pure part of PathsNone: the abstract machine evaluates. -/
import Derived.Test.YtnjknabighmedaaEnv
namespace Go.Proofs.Ytnjknabighmedaa.Vt
open Go Go.Proofs Go.Proofs.YtnjknabighmedaaV
set_option maxRecDepth 100000
set_option linter.unusedVariables false
theorem runPathsNone (σ : Store) (x0 x1 : Value) (h0 : g3.G σ [x0]) (h1 : g24.G σ [x1]) : Gives env 13 [x0, x1] σ (.bool true) := by
  obtain ⟨b0, q0, w0⟩ := h0
  cases q0
  obtain ⟨b1, q1, w1⟩ := h1
  cases q1
  exact gives_run (F := 10) (k := 10) (by kernel_rfl)
end Go.Proofs.Ytnjknabighmedaa.Vt
