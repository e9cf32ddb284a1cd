/- The pure part of NattabClash: run over codes. -/
import Derived.Test.YtnjknabighmedaaEnv
namespace Go.Proofs.Ytnjknabighmedaa.Vt
open Go Go.Proofs Go.Proofs.YtnjknabighmedaaV
set_option maxRecDepth 100000
set_option linter.unusedVariables false
def rowsNc : List BRow := [(.and, code 0, .int .u32 3, code 9), (.add, code 9, .int .u32 1, code 10), (.and, code 1, .int .i64 1, code 11), (.and, code 2, .int .u32 1, code 12), (.add, code 12, .int .u32 9, code 13),
  (.and, code 3, .int .i64 1, code 14), (.and, code 4, .int .u32 3, code 15), (.and, code 5, .int .u32 3, code 16), (.or, code 15, .int .u32 1, code 17), (.add, code 10, .int .u32 1, code 18), (.and, code 7, .int .u32 7, code 19), (.add, code 18, code 19, code 20),
  (.eql, code 17, .int .u32 0, .bool false), (.eql, code 13, code 13, .bool true), (.eql, code 14, code 14, .bool true), (.eql, code 11, code 11, .bool true), (.eql, code 17, code 17, .bool true), (.neq, code 10, code 20, .bool true), (.eql, code 10, code 10, .bool true), (.eql, code 16, code 16, .bool true), (.eql, code 6, code 6, .bool true)]
theorem runNattabClash (σ : Store) (x0 x1 x2 : Value) (h0 : (∃ acs, x0 = .agg ⟨acs⟩ ∧ g26.G σ acs)) (h1 : g24.G σ [x1]) (h2 : g3.G σ [x2]) : Lawful Try.prog 5 σ [x0, x1, x2] := by
  obtain ⟨acs0, rfl, k0⟩ := h0
  obtain ⟨_, _, rfl, ⟨a0, rfl, w2⟩, _, _, rfl, ⟨a1, rfl, w3⟩, _, _, rfl, ⟨a2, rfl, w4⟩, _, _, rfl, ⟨a3, rfl, w5⟩, _, _, rfl, ⟨a4, rfl, w6⟩, _, _, rfl, ⟨a5, rfl, w7⟩, _, _, rfl, ⟨a6, rfl, w8⟩, rfl⟩ := k0
  obtain ⟨a7, q1, w1⟩ := h1
  cases q1
  obtain ⟨a8, q2, w2⟩ := h2
  cases q2
  obtain ⟨r9, l9, e9⟩ := and_u32 a0 3 (by decide)
  obtain ⟨r11, l11, e11⟩ := and_i64 a1 1 (by decide)
  obtain ⟨r12, l12, e12⟩ := and_u32 a2 1 (by decide)
  obtain ⟨r14, l14, e14⟩ := and_i64 a3 1 (by decide)
  obtain ⟨r15, l15, e15⟩ := and_u32 a4 3 (by decide)
  obtain ⟨r16, l16, e16⟩ := and_u32 a5 3 (by decide)
  obtain ⟨r17, l17, e17⟩ := or1_u32 r15
  obtain ⟨r19, l19, e19⟩ := and_u32 a7 7 (by decide)
  refine lawful_sym env_ok [.int .u32 a0, .int .i64 a1, .int .u32 a2, .int .i64 a3, .int .u32 a4, .int .u32 a5, .int .i64 a6, .int .u32 a7, .int .i64 a8, .int .u32 r9, .int .u32 (IntKind.wrap .u32 (r9 + 1)), .int .i64 r11, .int .u32 r12, .int .u32 (IntKind.wrap .u32 (r12 + 9)), .int .i64 r14, .int .u32 r15, .int .u32 r16, .int .u32 r17, .int .u32 (IntKind.wrap .u32 (IntKind.wrap .u32 (r9 + 1) + 1)), .int .u32 r19, .int .u32 (IntKind.wrap .u32 (IntKind.wrap .u32 (IntKind.wrap .u32 (r9 + 1) + 1) + r19))] rowsNc [] []
    ⟨?_, ?_, ?_, ?_, ?_, ?_, ?_, ?_, ?_, ?_, ?_, ?_, ?_, ?_, ?_, ?_, ?_, ?_, ?_, ?_, ?_, trivial⟩ trivial trivial
    (show Recs _ [.agg ⟨[code 0, code 1, code 2, code 3, code 4, code 5, code 6]⟩, code 7, code 8] _ from .cons (.agg (.cons (.code rfl) (.cons (.code rfl) (.cons (.code rfl) (.cons (.code rfl) (.cons (.code rfl) (.cons (.code rfl) (.cons (.code rfl) .nil)))))))) (.cons (.code rfl) (.cons (.code rfl) .nil))) (gives_yes (F := 100) (k := 20) (by kernel_rfl))
  · exact ⟨.u32, a0, .u32, 3, _, .code rfl, .int _ _, .code rfl, e9⟩
  · exact ⟨.u32, r9, .u32, 1, _, .code rfl, .int _ _, .code rfl, fun _ => rfl⟩
  · exact ⟨.i64, a1, .i64, 1, _, .code rfl, .int _ _, .code rfl, e11⟩
  · exact ⟨.u32, a2, .u32, 1, _, .code rfl, .int _ _, .code rfl, e12⟩
  · exact ⟨.u32, r12, .u32, 9, _, .code rfl, .int _ _, .code rfl, fun _ => rfl⟩
  · exact ⟨.i64, a3, .i64, 1, _, .code rfl, .int _ _, .code rfl, e14⟩
  · exact ⟨.u32, a4, .u32, 3, _, .code rfl, .int _ _, .code rfl, e15⟩
  · exact ⟨.u32, a5, .u32, 3, _, .code rfl, .int _ _, .code rfl, e16⟩
  · exact ⟨.u32, r15, .u32, 1, _, .code rfl, .int _ _, .code rfl, e17⟩
  · exact ⟨.u32, _, .u32, 1, _, .code rfl, .int _ _, .code rfl, fun _ => rfl⟩
  · exact ⟨.u32, a7, .u32, 7, _, .code rfl, .int _ _, .code rfl, e19⟩
  · exact ⟨.u32, _, .u32, _, _, .code rfl, .code rfl, .code rfl, fun _ => rfl⟩
  · exact ⟨.u32, r17, .u32, 0, _, .code rfl, .int _ _, .bool _, cmp_row (congrArg (fun b => Sem.pure (Value.bool b)) l17) rfl⟩
  · exact ⟨_, _, _, _, _, .code rfl, .code rfl, .bool _, eql_row _ _⟩
  · exact ⟨_, _, _, _, _, .code rfl, .code rfl, .bool _, eql_row _ _⟩
  · exact ⟨_, _, _, _, _, .code rfl, .code rfl, .bool _, eql_row _ _⟩
  · exact ⟨_, _, _, _, _, .code rfl, .code rfl, .bool _, eql_row _ _⟩
  · refine ⟨_, _, _, _, _, .code rfl, .code rfl, .bool _, neq_row ?_⟩
    rw [IntKind.wrap_u32, IntKind.wrap_u32, IntKind.wrap_u32]
    omega
  · exact ⟨_, _, _, _, _, .code rfl, .code rfl, .bool _, eql_row _ _⟩
  · exact ⟨_, _, _, _, _, .code rfl, .code rfl, .bool _, eql_row _ _⟩
  · exact ⟨_, _, _, _, _, .code rfl, .code rfl, .bool _, eql_row _ _⟩
end Go.Proofs.Ytnjknabighmedaa.Vt
