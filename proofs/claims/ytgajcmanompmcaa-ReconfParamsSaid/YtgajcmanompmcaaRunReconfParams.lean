/- The pure part of ReconfParams: what requests and answers are made of is read again; whatever is read is what it says. -/
import Derived.Test.YtgajcmanompmcaaRr
namespace Go.Proofs.Ytgajcmanompmcaa.Vt
open Go Go.Proofs Go.Proofs.YtgajcmanompmcaaV
theorem wf_word {b : Int} (h : (Lit.int .u32 b).wf = true) : ∃ x : BitVec 32, b = ((x.toNat : Nat) : Int) := by
  have h2 : 0 ≤ b ∧ b < 4294967296 := by
    simp [Lit.wf, IntKind.min, IntKind.max, IntKind.signed, IntKind.bits] at h
    omega
  exact ⟨BitVec.ofNat 32 b.toNat, by rw [BitVec.toNat_ofNat]; omega⟩
theorem wf_byte {b : Int} (h : (Lit.int .u8 b).wf = true) : ∃ c : UInt8, b = ((c.toNat : Nat) : Int) := by
  have h2 : 0 ≤ b ∧ b < 256 := by
    simp [Lit.wf, IntKind.min, IntKind.max, IntKind.signed, IntKind.bits] at h
    omega
  exact ⟨UInt8.ofNat b.toNat, by simp [UInt8.toNat_ofNat']; omega⟩
theorem wf_i64 {b : Int} (h : (Lit.int .i64 b).wf = true) : -9223372036854775808 ≤ b ∧ b ≤ 9223372036854775807 := by
  simp [Lit.wf, IntKind.min, IntKind.max, IntKind.signed, IntKind.bits] at h
  omega
theorem runReconfParams (n : Nat) (σ : Store) (hd : Dom n σ) (x0 x1 x2 : Value) (h0 : (∃ acs, x0 = .agg ⟨acs⟩ ∧ g35.G σ acs)) (h1 : g36.G σ [x1]) (h2 : g3.G σ [x2]) : CQ Try.prog noDen 5 [x0, x1, x2] n σ (fun v _ _ => v = .bool true) := by
  obtain ⟨acs0, rfl, k0⟩ := h0
  obtain ⟨_, _, rfl, ⟨a2, rfl, w2⟩, _, _, rfl, ⟨a3, rfl, w3⟩, rfl⟩ := k0
  obtain ⟨b1, q1, w1⟩ := h1
  cases q1
  obtain ⟨b2, q2, w2⟩ := h2
  cases q2
  obtain ⟨i, rfl⟩ := wf_word w1
  exact CQ.ps hd (sLaw a2 a3 i b2) fun _ _ => rfl
end Go.Proofs.Ytgajcmanompmcaa.Vt
