/- The pure part of TraceBytes. -/
import Derived.Test.YtgajcmanompmcaaTr6
namespace Go.Proofs.Ytgajcmanompmcaa.Vt
open Go Go.Proofs Go.Proofs.YtgajcmanompmcaaV
theorem wf_word {b : Int} (h : (Lit.int .u32 b).wf = true) : ∃ x : BitVec 32, b = ((x.toNat : Nat) : Int) := by
  have h2 : 0 ≤ b ∧ b < 4294967296 := by
    simp [Lit.wf, IntKind.min, IntKind.max, IntKind.signed, IntKind.bits] at h
    omega
  exact ⟨BitVec.ofNat 32 b.toNat, by rw [BitVec.toNat_ofNat]; omega⟩
theorem wf_byte {b : Int} (h : (Lit.int .u8 b).wf = true) : ∃ c : UInt8, b = ((c.toNat : Nat) : Int) := by
  have h2 : 0 ≤ b ∧ b < 256 := by
    simp [Lit.wf, IntKind.min, IntKind.max, IntKind.signed, IntKind.bits] at h
    omega
  exact ⟨UInt8.ofNat b.toNat, by simp [UInt8.toNat_ofNat']; omega⟩
theorem wf_i64 {b : Int} (h : (Lit.int .i64 b).wf = true) : -9223372036854775808 ≤ b ∧ b ≤ 9223372036854775807 := by
  simp [Lit.wf, IntKind.min, IntKind.max, IntKind.signed, IntKind.bits] at h
  omega
theorem rowsAct {σ : Store} : ∀ {es : List (List Value)}, (∀ x ∈ es, g24.G σ x) → ∃ l : List Act, es = l.map cAct
  | [], _ => ⟨[], rfl⟩
  | x :: es, h => by
    obtain ⟨l, rfl⟩ := rowsAct (es := es) (fun y hy => h y (List.mem_cons_of_mem _ hy))
    obtain ⟨_, _, rfl, ⟨a0, rfl, w0⟩, _, _, rfl, ⟨a1, rfl, w1⟩, _, _, rfl, ⟨a2, rfl, w2⟩, _, _, rfl, ⟨a3, rfl, w3⟩, _, _, rfl, ⟨a4, rfl, w4⟩, _, _, rfl, ⟨a5, rfl, w5⟩, _, _, rfl, ⟨a6, rfl, w6⟩, _, _, rfl, ⟨a7, rfl, w7⟩, _, _, rfl, ⟨a8, rfl, w8⟩, rfl⟩ := h x (List.mem_cons_self ..)
    exact ⟨⟨a0, a1, a2, a3, a4, a5, a6, a7, a8⟩ :: l, rfl⟩
theorem runTraceBytes (n : Nat) (σ : Store) (hd : Dom n σ) (hn0 : 0 < n) (x0 : Value) (h0 : g22.G σ [x0]) : CQ Try.prog noDen 3 [x0] n σ (fun v _ _ => v = .bool true) := by
  obtain ⟨v, e0, q0, r0, w0⟩ := h0
  cases q0
  obtain ⟨l, rfl⟩ := rowsAct w0
  exact tBytes hd hn0 _ l r0.P
end Go.Proofs.Ytgajcmanompmcaa.Vt
