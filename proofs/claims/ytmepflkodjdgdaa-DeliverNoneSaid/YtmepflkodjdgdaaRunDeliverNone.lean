/- The pure part of DeliverNone: the abstract machine evaluates. -/
import Derived.Test.YtmepflkodjdgdaaEnv
namespace Go.Proofs.Ytmepflkodjdgdaa.Vt
open Go Go.Proofs Go.Proofs.YtmepflkodjdgdaaV
set_option maxRecDepth 100000
set_option linter.unusedVariables false
theorem runDeliverNone (σ : Store) (x0 x1 : Value) (h0 : (∃ acs, x0 = .agg ⟨acs⟩ ∧ g29.G σ acs)) (h1 : g3.G σ [x1]) : Gives env 5 [x0, x1] σ (.bool true) := by
  obtain ⟨acs0, rfl, k0⟩ := h0
  obtain ⟨_, _, rfl, ⟨a2, rfl, w2⟩, _, _, rfl, ⟨a3, rfl, w3⟩, _, _, rfl, ⟨a4, rfl⟩, _, _, rfl, ⟨a5, rfl, w5⟩, _, _, rfl, ⟨a6, rfl, w6⟩, rfl⟩ := k0
  obtain ⟨b1, q1, w1⟩ := h1
  cases q1
  exact gives_run (F := 10) (k := 10) (by kernel_rfl)
end Go.Proofs.Ytmepflkodjdgdaa.Vt
