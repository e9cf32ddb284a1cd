/- The pure part of FlightNone: each of the four numbers of gaps is run. -/
import Derived.Test.YtmepflkodjdgdaaEnv
namespace Go.Proofs.Ytmepflkodjdgdaa.Vt
open Go Go.Proofs Go.Proofs.YtmepflkodjdgdaaV
set_option maxRecDepth 100000
set_option linter.unusedVariables false
theorem runFlightNone (σ : Store) (x0 x1 : Value) (h0 : g3.G σ [x0]) (h1 : (∃ acs, x1 = .agg ⟨acs⟩ ∧ g54.G σ acs)) : Lawful Try.prog 12 σ [x0, x1] := by
  obtain ⟨b0, q0, w0⟩ := h0
  cases q0
  obtain ⟨acs1, rfl, k1⟩ := h1
  obtain ⟨_, _, rfl, ⟨a2, rfl, w2⟩, _, _, rfl, ⟨a3, rfl, w3⟩, _, _, rfl, ⟨a4, rfl, w4⟩, _, _, rfl, ⟨a5, rfl, w5⟩, _, _, rfl, ⟨a6, rfl, w6⟩, _, _, rfl, ⟨a7, rfl, w7⟩, _, _, rfl, ⟨a8, rfl, w8⟩, _, _, rfl, ⟨a9, rfl, w9⟩, _, _, rfl, ⟨a10, rfl, w10⟩, _, _, rfl, ⟨a11, rfl, w11⟩, _, _, rfl, ⟨a12, rfl, w12⟩, _, _, rfl, ⟨v13, e13, rfl, r13, w13⟩, _, _, rfl, ⟨v14, e14, rfl, r14, w14⟩, _, _, rfl, ⟨v15, e15, rfl, r15, w15⟩, _, _, rfl, ⟨v16, e16, rfl, r16, w16⟩, rfl⟩ := k1
  obtain ⟨bv13, cv13, rfl⟩ := r13.shape
  obtain ⟨bv14, cv14, rfl⟩ := r14.shape
  obtain ⟨bv15, cv15, rfl⟩ := r15.shape
  obtain ⟨bv16, cv16, rfl⟩ := r16.shape
  obtain ⟨m, hm, h⟩ := and_i64 b0 3 (by decide)
  have hc := below_all (p := fun m => yes (xcall (env.sym (denL [.int .i64 b0, .int .u32 (IntKind.wrap .u32 b0)]) [(.and, code 0, .int .i64 3, .int .i64 m)] [] [(.u32, code 0, code 1)]) 100 20 12 [code 0, .agg ⟨[.int .i64 a2] ++ ([.int .i64 a3] ++ ([.int .u32 a4] ++ ([.int .i64 a5] ++ ([.int .i64 a6] ++ ([.int .u32 a7] ++ ([.string a8] ++ ([.int .u32 a9] ++ ([.int .u32 a10] ++ ([.int .i64 a11] ++ ([.int .i64 a12] ++ ([.slice bv13 e13.length cv13] ++ ([.slice bv14 e14.length cv14] ++ ([.slice bv15 e15.length cv15] ++ ([.slice bv16 e16.length cv16] ++ ([])))))))))))))))⟩] 0 σ)) (n := 4) (by kernel_rfl) hm
  exact lawful_sym env_ok [.int .i64 b0, .int .u32 (IntKind.wrap .u32 b0)] [(.and, code 0, .int .i64 3, .int .i64 m)] [] [(.u32, code 0, code 1)] ⟨⟨.i64, b0, .i64, 3, _, .code rfl, .int _ _, .int _ _, h⟩, trivial⟩ trivial ⟨⟨.i64, b0, .code rfl, .code rfl⟩, trivial⟩ (.cons (.code rfl) (.cons (.same _) .nil)) (gives_yes hc)
end Go.Proofs.Ytmepflkodjdgdaa.Vt
