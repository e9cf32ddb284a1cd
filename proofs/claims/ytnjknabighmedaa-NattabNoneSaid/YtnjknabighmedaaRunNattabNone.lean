/- The pure part of NattabNone: run over codes, for each of the eight rooms. -/
import Derived.Test.YtnjknabighmedaaEnv
namespace Go.Proofs.Ytnjknabighmedaa.Vt
open Go Go.Proofs Go.Proofs.YtnjknabighmedaaV
set_option maxRecDepth 100000
set_option linter.unusedVariables false
def rowsNn (m : Int) : List BRow := [(.or, code 4, .int .u32 1, code 8), (.and, code 7, .int .i64 7, .int .i64 m), (.eql, code 8, .int .u32 0, .bool false)]
theorem runNattabNone (σ : Store) (x0 x1 : Value) (h0 : (∃ acs, x0 = .agg ⟨acs⟩ ∧ g26.G σ acs)) (h1 : g3.G σ [x1]) : Lawful Try.prog 11 σ [x0, x1] := by
  obtain ⟨acs0, rfl, k0⟩ := h0
  obtain ⟨_, _, rfl, ⟨a2, rfl, w2⟩, _, _, rfl, ⟨a3, rfl, w3⟩, _, _, rfl, ⟨a4, rfl, w4⟩, _, _, rfl, ⟨a5, rfl, w5⟩, _, _, rfl, ⟨a6, rfl, w6⟩, _, _, rfl, ⟨a7, rfl, w7⟩, _, _, rfl, ⟨a8, rfl, w8⟩, rfl⟩ := k0
  obtain ⟨b1, q1, w1⟩ := h1
  cases q1
  obtain ⟨m, hm, h⟩ := and_i64 b1 7 (by decide)
  obtain ⟨r, hr, h'⟩ := or1_u32 a6
  have hc := below_all (p := fun m => yes (xcall (env.sym (denL [.int .u32 a2, .int .i64 a3, .int .u32 a4, .int .i64 a5, .int .u32 a6, .int .u32 a7, .int .i64 a8, .int .i64 b1, .int .u32 r]) (rowsNn m) [] []) 100 20 11 [.agg ⟨[code 0, code 1, code 2, code 3, code 4, code 5, code 6]⟩, code 7] 0 σ)) (n := 8) (by kernel_rfl) hm
  refine lawful_sym env_ok [.int .u32 a2, .int .i64 a3, .int .u32 a4, .int .i64 a5, .int .u32 a6, .int .u32 a7, .int .i64 a8, .int .i64 b1, .int .u32 r] (rowsNn m) [] [] ⟨?_, ?_, ?_, trivial⟩ trivial trivial (.cons (.agg (.cons (.code rfl) (.cons (.code rfl) (.cons (.code rfl) (.cons (.code rfl) (.cons (.code rfl) (.cons (.code rfl) (.cons (.code rfl) .nil)))))))) (.cons (.code rfl) .nil)) (gives_yes hc)
  · exact ⟨.u32, a6, .u32, 1, _, .code rfl, .int _ _, .code rfl, h'⟩
  · exact ⟨.i64, b1, .i64, 7, _, .code rfl, .int _ _, .int _ _, h⟩
  · exact ⟨.u32, r, .u32, 0, _, .code rfl, .int _ _, .bool _, cmp_row (congrArg (fun b => Sem.pure (Value.bool b)) hr) rfl⟩
end Go.Proofs.Ytnjknabighmedaa.Vt
