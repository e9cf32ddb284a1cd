/- The pure part of ChunkKnown: each of the 256 types is run. -/
import Derived.Test.YtgajcmanompmcaaEnv
namespace Go.Proofs.Ytgajcmanompmcaa.Vt
open Go Go.Proofs Go.Proofs.YtgajcmanompmcaaV
set_option maxRecDepth 100000
set_option linter.unusedVariables false
theorem awake33 (D : Den) (bs : List BRow) (us : List URow) (cs : List CRow) : MemoOk (env.sym D bs us cs) 300 20 ⟨33, 0, .bool true, 13⟩ := fun σ => by kernel_rfl
theorem runChunkKnown (σ : Store) (x0 : Value) (h0 : g3.G σ [x0]) : Lawful Try.prog 8 σ [x0] := by
  obtain ⟨b0, q0, w0⟩ := h0
  cases q0
  obtain ⟨m, hm, h⟩ := and_i64 b0 255 (by decide)
  have hc := below_all (p := fun m => yes (xbody (env.sym (denL [.int .i64 b0]) [(.and, code 0, .int .i64 255, .int .i64 m)] [] []) 300 (memoX (xcall (env.sym (denL [.int .i64 b0]) [(.and, code 0, .int .i64 255, .int .i64 m)] [] []) 300 20) [⟨33, 0, .bool true, 13⟩]) 8 [code 0] 0 σ)) (n := 256) (by kernel_rfl) hm
  exact lawful_sym env_ok [.int .i64 b0] [(.and, code 0, .int .i64 255, .int .i64 m)] [] [] ⟨⟨.i64, b0, .i64, 255, _, .code rfl, .int _ _, .int _ _, h⟩, trivial⟩ trivial trivial (.cons (.code rfl) .nil) (gives_memo [⟨33, 0, .bool true, 13⟩] ⟨awake33 _ _ _ _, trivial⟩ hc)
end Go.Proofs.Ytgajcmanompmcaa.Vt
