/- The pure part of OctetNone: each of the eight lengths is run. -/
import Derived.Test.YtmdncojhnbbafaaEnv
namespace Go.Proofs.Ytmdncojhnbbafaa.Vt
open Go Go.Proofs Go.Proofs.YtmdncojhnbbafaaV
set_option maxRecDepth 100000
set_option linter.unusedVariables false
theorem runOctetNone (σ : Store) (x0 : Value) (h0 : g3.G σ [x0]) : Lawful Try.prog 6 σ [x0] := by
  obtain ⟨b0, q0, w0⟩ := h0
  cases q0
  obtain ⟨m, hm, h⟩ := and_i64 b0 7 (by decide)
  have hc := below_all (p := fun m => yes (xcall (env.sym (denL [.int .i64 b0]) [(.and, code 0, .int .i64 7, .int .i64 m)] [] []) 100 20 6 [code 0] 0 σ)) (n := 8) (by kernel_rfl) hm
  exact lawful_sym env_ok [.int .i64 b0] [(.and, code 0, .int .i64 7, .int .i64 m)] [] [] ⟨⟨.i64, b0, .i64, 7, _, .code rfl, .int _ _, .int _ _, h⟩, trivial⟩ trivial trivial (.cons (.code rfl) .nil) (gives_yes hc)
end Go.Proofs.Ytmdncojhnbbafaa.Vt
