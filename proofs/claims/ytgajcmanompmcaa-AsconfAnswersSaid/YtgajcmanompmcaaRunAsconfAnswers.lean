/- The pure part of AsconfAnswers. -/
import Derived.Test.YtgajcmanompmcaaAc4
namespace Go.Proofs.Ytgajcmanompmcaa.Vt
open Go Go.Proofs Go.Proofs.YtgajcmanompmcaaV
theorem wf_word {b : Int} (h : (Lit.int .u32 b).wf = true) : ∃ x : BitVec 32, b = ((x.toNat : Nat) : Int) := by
  have h2 : 0 ≤ b ∧ b < 4294967296 := by
    simp [Lit.wf, IntKind.min, IntKind.max, IntKind.signed, IntKind.bits] at h
    omega
  exact ⟨BitVec.ofNat 32 b.toNat, by rw [BitVec.toNat_ofNat]; omega⟩
theorem wf_byte {b : Int} (h : (Lit.int .u8 b).wf = true) : ∃ c : UInt8, b = ((c.toNat : Nat) : Int) := by
  have h2 : 0 ≤ b ∧ b < 256 := by
    simp [Lit.wf, IntKind.min, IntKind.max, IntKind.signed, IntKind.bits] at h
    omega
  exact ⟨UInt8.ofNat b.toNat, by simp [UInt8.toNat_ofNat']; omega⟩
theorem wf_i64 {b : Int} (h : (Lit.int .i64 b).wf = true) : -9223372036854775808 ≤ b ∧ b ≤ 9223372036854775807 := by
  simp [Lit.wf, IntKind.min, IntKind.max, IntKind.signed, IntKind.bits] at h
  omega
theorem iRowsA {σ : Store} : ∀ {es : List (List Value)}, (∀ x ∈ es, g3.G σ x) → ∃ l : List I1, es = l.map cI1
  | [], _ => ⟨[], rfl⟩
  | x :: es, h => by
    obtain ⟨l, rfl⟩ := iRowsA (es := es) (fun y hy => h y (List.mem_cons_of_mem _ hy))
    obtain ⟨a0, rfl, w0⟩ := h x (List.mem_cons_self ..)
    exact ⟨⟨a0⟩ :: l, rfl⟩
theorem runAsconfAnswers (n : Nat) (σ : Store) (hd : Dom n σ) (hn0 : 0 < n) (x0 x1 x2 : Value) (h0 : g36.G σ [x0]) (h1 : g44.G σ [x1]) (h2 : g44.G σ [x2]) : CQ Try.prog noDen 9 [x0, x1, x2] n σ (fun v _ _ => v = .bool true) := by
  obtain ⟨b0, q0, w0⟩ := h0
  cases q0
  obtain ⟨v, e1, q1, r1, w1⟩ := h1
  cases q1
  obtain ⟨u, e2, q2, r2, w2⟩ := h2
  cases q2
  obtain ⟨x, rfl⟩ := wf_word w0
  obtain ⟨l, rfl⟩ := iRowsA w1
  obtain ⟨m, rfl⟩ := iRowsA w2
  exact acLaw hd hn0 x _ _ l m r1.P r2.P
end Go.Proofs.Ytgajcmanompmcaa.Vt
