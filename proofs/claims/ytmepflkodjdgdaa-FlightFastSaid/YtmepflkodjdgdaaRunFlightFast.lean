/- The pure part of FlightFast: run over codes, for each of the eight numbers of chunks. -/
import Derived.Test.YtmepflkodjdgdaaEnv
namespace Go.Proofs.Ytmepflkodjdgdaa.Vt
open Go Go.Proofs Go.Proofs.YtmepflkodjdgdaaV
set_option maxRecDepth 100000
set_option linter.unusedVariables false
set_option linter.unusedSimpArgs false
def rowsFf (m : Int) : List BRow := [(.and, code 1, .int .i64 7, .int .i64 m), (.add, code 0, .int .u32 0, code 0), (.neq, code 0, code 0, .bool false), (.sub, code 0, code 0, .int .u32 0), (.eql, code 2, code 2, .bool true), (.add, code 2, .int .u32 1, code 3), (.add, code 3, .int .u32 1, code 4), (.add, code 4, .int .u32 1, code 5), (.add, code 5, .int .u32 1, code 6), (.add, code 6, .int .u32 1, code 7), (.add, code 7, .int .u32 1, code 8), (.add, code 8, .int .u32 1, code 9), (.add, code 9, .int .u32 1, code 10), (.add, code 10, .int .u32 1, code 11), (.add, code 11, .int .u32 1, code 12), (.add, code 0, .int .u32 1, code 2), (.add, code 0, .int .u32 2, code 3), (.add, code 0, .int .u32 3, code 4), (.add, code 0, .int .u32 4, code 5), (.add, code 0, .int .u32 5, code 6), (.add, code 0, .int .u32 6, code 7), (.add, code 0, .int .u32 7, code 8), (.add, code 0, .int .u32 8, code 9), (.add, code 0, .int .u32 9, code 10), (.add, code 0, .int .u32 10, code 11), (.add, code 0, .int .u32 11, code 12)]
theorem add_row {k : IntKind} {n m r : Int} (h : IntKind.wrap k (n + m) = r) : ∀ t, binOp .add t (.int k n) (.int k m) = .pure (.int k r) := fun t => by
  subst h
  simp [binOp, Op.intArith]
  rfl
theorem sub_row {k : IntKind} {n m r : Int} (h : IntKind.wrap k (n - m) = r) : ∀ t, binOp .sub t (.int k n) (.int k m) = .pure (.int k r) := fun t => by
  subst h
  simp [binOp, Op.intArith]
  rfl
theorem neq_same (k : IntKind) (n : Int) : ∀ t, binOp .neq t (.int k n) (.int k n) = .pure (.bool false) := by
  intro t
  have : Op.intCmp .neq n n = .pure (.bool false) := congrArg (fun b => Sem.pure (Value.bool b)) (by simp)
  rw [← this]
  simp [binOp]
theorem rowsFf_ok (c b : Int) (m : Nat) (w : 0 ≤ c ∧ c < 4294967296) (h : ∀ t, binOp .and t (.int .i64 b) (.int .i64 7) = .pure (.int .i64 m)) : allP (BOk (denL [.int .u32 c, .int .i64 b, .int .u32 (IntKind.wrap .u32 (c + 1)), .int .u32 (IntKind.wrap .u32 (c + 2)), .int .u32 (IntKind.wrap .u32 (c + 3)), .int .u32 (IntKind.wrap .u32 (c + 4)), .int .u32 (IntKind.wrap .u32 (c + 5)), .int .u32 (IntKind.wrap .u32 (c + 6)), .int .u32 (IntKind.wrap .u32 (c + 7)), .int .u32 (IntKind.wrap .u32 (c + 8)), .int .u32 (IntKind.wrap .u32 (c + 9)), .int .u32 (IntKind.wrap .u32 (c + 10)), .int .u32 (IntKind.wrap .u32 (c + 11))])) (rowsFf m) :=
  ⟨⟨.i64, b, .i64, 7, _, .code rfl, .int _ _, .int _ _, h⟩, ⟨.u32, c, .u32, 0, _, .code rfl, .int _ _, .code rfl, add_row (by rw [IntKind.wrap_u32]; omega)⟩, ⟨.u32, c, .u32, c, _, .code rfl, .code rfl, .bool _, neq_same _ _⟩, ⟨.u32, c, .u32, c, _, .code rfl, .code rfl, .int _ _, sub_row (by rw [IntKind.wrap_u32]; omega)⟩, ⟨_, _, _, _, _, .code rfl, .code rfl, .bool _, eql_row _ _⟩, ⟨.u32, _, .u32, 1, _, .code rfl, .int _ _, .code rfl, add_row (by rw [IntKind.wrap_u32, IntKind.wrap_u32, IntKind.wrap_u32]; omega)⟩, ⟨.u32, _, .u32, 1, _, .code rfl, .int _ _, .code rfl, add_row (by rw [IntKind.wrap_u32, IntKind.wrap_u32, IntKind.wrap_u32]; omega)⟩, ⟨.u32, _, .u32, 1, _, .code rfl, .int _ _, .code rfl, add_row (by rw [IntKind.wrap_u32, IntKind.wrap_u32, IntKind.wrap_u32]; omega)⟩, ⟨.u32, _, .u32, 1, _, .code rfl, .int _ _, .code rfl, add_row (by rw [IntKind.wrap_u32, IntKind.wrap_u32, IntKind.wrap_u32]; omega)⟩, ⟨.u32, _, .u32, 1, _, .code rfl, .int _ _, .code rfl, add_row (by rw [IntKind.wrap_u32, IntKind.wrap_u32, IntKind.wrap_u32]; omega)⟩, ⟨.u32, _, .u32, 1, _, .code rfl, .int _ _, .code rfl, add_row (by rw [IntKind.wrap_u32, IntKind.wrap_u32, IntKind.wrap_u32]; omega)⟩, ⟨.u32, _, .u32, 1, _, .code rfl, .int _ _, .code rfl, add_row (by rw [IntKind.wrap_u32, IntKind.wrap_u32, IntKind.wrap_u32]; omega)⟩, ⟨.u32, _, .u32, 1, _, .code rfl, .int _ _, .code rfl, add_row (by rw [IntKind.wrap_u32, IntKind.wrap_u32, IntKind.wrap_u32]; omega)⟩, ⟨.u32, _, .u32, 1, _, .code rfl, .int _ _, .code rfl, add_row (by rw [IntKind.wrap_u32, IntKind.wrap_u32, IntKind.wrap_u32]; omega)⟩, ⟨.u32, _, .u32, 1, _, .code rfl, .int _ _, .code rfl, add_row (by rw [IntKind.wrap_u32, IntKind.wrap_u32, IntKind.wrap_u32]; omega)⟩, ⟨.u32, c, .u32, 1, _, .code rfl, .int _ _, .code rfl, fun _ => rfl⟩, ⟨.u32, c, .u32, 2, _, .code rfl, .int _ _, .code rfl, fun _ => rfl⟩, ⟨.u32, c, .u32, 3, _, .code rfl, .int _ _, .code rfl, fun _ => rfl⟩, ⟨.u32, c, .u32, 4, _, .code rfl, .int _ _, .code rfl, fun _ => rfl⟩, ⟨.u32, c, .u32, 5, _, .code rfl, .int _ _, .code rfl, fun _ => rfl⟩, ⟨.u32, c, .u32, 6, _, .code rfl, .int _ _, .code rfl, fun _ => rfl⟩, ⟨.u32, c, .u32, 7, _, .code rfl, .int _ _, .code rfl, fun _ => rfl⟩, ⟨.u32, c, .u32, 8, _, .code rfl, .int _ _, .code rfl, fun _ => rfl⟩, ⟨.u32, c, .u32, 9, _, .code rfl, .int _ _, .code rfl, fun _ => rfl⟩, ⟨.u32, c, .u32, 10, _, .code rfl, .int _ _, .code rfl, fun _ => rfl⟩, ⟨.u32, c, .u32, 11, _, .code rfl, .int _ _, .code rfl, fun _ => rfl⟩, trivial⟩
theorem ff0 (D : Den) (σ : Store) : yes (xcall (env.sym D (rowsFf ((0 : Nat) : Int)) [] []) 100 20 6 [code 0, code 1] 0 σ) = true := by kernel_rfl
theorem ff1 (D : Den) (σ : Store) : yes (xcall (env.sym D (rowsFf ((1 : Nat) : Int)) [] []) 100 20 6 [code 0, code 1] 0 σ) = true := by kernel_rfl
theorem ff2 (D : Den) (σ : Store) : yes (xcall (env.sym D (rowsFf ((2 : Nat) : Int)) [] []) 100 20 6 [code 0, code 1] 0 σ) = true := by kernel_rfl
theorem ff3 (D : Den) (σ : Store) : yes (xcall (env.sym D (rowsFf ((3 : Nat) : Int)) [] []) 100 20 6 [code 0, code 1] 0 σ) = true := by kernel_rfl
theorem ff4 (D : Den) (σ : Store) : yes (xcall (env.sym D (rowsFf ((4 : Nat) : Int)) [] []) 100 20 6 [code 0, code 1] 0 σ) = true := by kernel_rfl
theorem ff5 (D : Den) (σ : Store) : yes (xcall (env.sym D (rowsFf ((5 : Nat) : Int)) [] []) 100 20 6 [code 0, code 1] 0 σ) = true := by kernel_rfl
theorem ff6 (D : Den) (σ : Store) : yes (xcall (env.sym D (rowsFf ((6 : Nat) : Int)) [] []) 100 20 6 [code 0, code 1] 0 σ) = true := by kernel_rfl
theorem ff7 (D : Den) (σ : Store) : yes (xcall (env.sym D (rowsFf ((7 : Nat) : Int)) [] []) 100 20 6 [code 0, code 1] 0 σ) = true := by kernel_rfl
theorem runFlightFast (σ : Store) (x0 x1 : Value) (h0 : g27.G σ [x0]) (h1 : g3.G σ [x1]) : Lawful Try.prog 6 σ [x0, x1] := by
  obtain ⟨c, q0, w0⟩ := h0
  cases q0
  obtain ⟨b, q1, w1⟩ := h1
  cases q1
  have w : 0 ≤ c ∧ c < 4294967296 := by
    simp [Lit.wf, IntKind.min, IntKind.max, IntKind.signed, IntKind.bits] at w0
    omega
  obtain ⟨m, hm, h⟩ := and_i64 b 7 (by decide)
  have hc : yes (xcall (env.sym (denL [.int .u32 c, .int .i64 b, .int .u32 (IntKind.wrap .u32 (c + 1)), .int .u32 (IntKind.wrap .u32 (c + 2)), .int .u32 (IntKind.wrap .u32 (c + 3)), .int .u32 (IntKind.wrap .u32 (c + 4)), .int .u32 (IntKind.wrap .u32 (c + 5)), .int .u32 (IntKind.wrap .u32 (c + 6)), .int .u32 (IntKind.wrap .u32 (c + 7)), .int .u32 (IntKind.wrap .u32 (c + 8)), .int .u32 (IntKind.wrap .u32 (c + 9)), .int .u32 (IntKind.wrap .u32 (c + 10)), .int .u32 (IntKind.wrap .u32 (c + 11))]) (rowsFf m) [] []) 100 20 6 [code 0, code 1] 0 σ) = true := by
    have : m = 0 ∨ m = 1 ∨ m = 2 ∨ m = 3 ∨ m = 4 ∨ m = 5 ∨ m = 6 ∨ m = 7 := by omega
    rcases this with rfl | rfl | rfl | rfl | rfl | rfl | rfl | rfl
    · exact ff0 _ σ
    · exact ff1 _ σ
    · exact ff2 _ σ
    · exact ff3 _ σ
    · exact ff4 _ σ
    · exact ff5 _ σ
    · exact ff6 _ σ
    · exact ff7 _ σ
  exact lawful_sym env_ok [.int .u32 c, .int .i64 b, .int .u32 (IntKind.wrap .u32 (c + 1)), .int .u32 (IntKind.wrap .u32 (c + 2)), .int .u32 (IntKind.wrap .u32 (c + 3)), .int .u32 (IntKind.wrap .u32 (c + 4)), .int .u32 (IntKind.wrap .u32 (c + 5)), .int .u32 (IntKind.wrap .u32 (c + 6)), .int .u32 (IntKind.wrap .u32 (c + 7)), .int .u32 (IntKind.wrap .u32 (c + 8)), .int .u32 (IntKind.wrap .u32 (c + 9)), .int .u32 (IntKind.wrap .u32 (c + 10)), .int .u32 (IntKind.wrap .u32 (c + 11))] (rowsFf m) [] [] (rowsFf_ok c b m w h) trivial trivial (.cons (.code rfl) (.cons (.code rfl) .nil)) (gives_yes hc)
end Go.Proofs.Ytmepflkodjdgdaa.Vt
