/- The pure part of PathsPlays. -/
import Derived.Test.YtnjknabighmedaaPa8
namespace Go.Proofs.Ytnjknabighmedaa.Vt
open Go Go.Proofs Go.Proofs.YtnjknabighmedaaV
theorem wf_word {b : Int} (h : (Lit.int .u32 b).wf = true) : ∃ x : BitVec 32, b = ((x.toNat : Nat) : Int) := by
  have h2 : 0 ≤ b ∧ b < 4294967296 := by
    simp [Lit.wf, IntKind.min, IntKind.max, IntKind.signed, IntKind.bits] at h
    omega
  exact ⟨BitVec.ofNat 32 b.toNat, by rw [BitVec.toNat_ofNat]; omega⟩
theorem wf_byte {b : Int} (h : (Lit.int .u8 b).wf = true) : ∃ c : UInt8, b = ((c.toNat : Nat) : Int) := by
  have h2 : 0 ≤ b ∧ b < 256 := by
    simp [Lit.wf, IntKind.min, IntKind.max, IntKind.signed, IntKind.bits] at h
    omega
  exact ⟨UInt8.ofNat b.toNat, by simp [UInt8.toNat_ofNat']; omega⟩
theorem wf_i64 {b : Int} (h : (Lit.int .i64 b).wf = true) : -9223372036854775808 ≤ b ∧ b ≤ 9223372036854775807 := by
  simp [Lit.wf, IntKind.min, IntKind.max, IntKind.signed, IntKind.bits] at h
  omega
theorem rowsA {σ : Store} : ∀ {es : List (List Value)}, (∀ x ∈ es, g91.G σ x) → ∃ l : List Act, es = l.map cAct
  | [], _ => ⟨[], rfl⟩
  | x :: es, h => by
    obtain ⟨l, rfl⟩ := rowsA (es := es) (fun y hy => h y (List.mem_cons_of_mem _ hy))
    obtain ⟨_, _, rfl, ⟨a0, rfl, w0⟩, _, _, rfl, ⟨a1, rfl, w1⟩, _, _, rfl, ⟨a2, rfl, w2⟩, _, _, rfl, ⟨a3, rfl, w3⟩, rfl⟩ := h x (List.mem_cons_self ..)
    exact ⟨⟨a0, a1, a2, a3⟩ :: l, rfl⟩
theorem runPathsPlays (n : Nat) (σ : Store) (hd : Dom n σ) (hn0 : 0 < n) (x0 : Value) (h0 : g81.G σ [x0]) : CQ Try.prog noDen 12 [x0] n σ (fun v _ _ => v = .bool true) := by
  obtain ⟨v, e0, q0, r0, w0⟩ := h0
  cases q0
  obtain ⟨l, rfl⟩ := rowsA w0
  exact pLaw hd hn0 _ l r0.P
end Go.Proofs.Ytnjknabighmedaa.Vt
