/- The pure part of ParamTagged: what three numbers make is read again; whatever is read is these numbers. -/
import Derived.Test.YtmdncojhnbbafaaPu
namespace Go.Proofs.Ytmdncojhnbbafaa.Vt
open Go Go.Proofs Go.Proofs.YtmdncojhnbbafaaV
theorem wf_word {b : Int} (h : (Lit.int .u32 b).wf = true) : ∃ x : BitVec 32, b = ((x.toNat : Nat) : Int) := by
  have h2 : 0 ≤ b ∧ b < 4294967296 := by
    simp [Lit.wf, IntKind.min, IntKind.max, IntKind.signed, IntKind.bits] at h
    omega
  exact ⟨BitVec.ofNat 32 b.toNat, by rw [BitVec.toNat_ofNat]; omega⟩
theorem wf_byte {b : Int} (h : (Lit.int .u8 b).wf = true) : ∃ c : UInt8, b = ((c.toNat : Nat) : Int) := by
  have h2 : 0 ≤ b ∧ b < 256 := by
    simp [Lit.wf, IntKind.min, IntKind.max, IntKind.signed, IntKind.bits] at h
    omega
  exact ⟨UInt8.ofNat b.toNat, by simp [UInt8.toNat_ofNat']; omega⟩
theorem wf_i64 {b : Int} (h : (Lit.int .i64 b).wf = true) : -9223372036854775808 ≤ b ∧ b ≤ 9223372036854775807 := by
  simp [Lit.wf, IntKind.min, IntKind.max, IntKind.signed, IntKind.bits] at h
  omega
theorem runParamTagged (n : Nat) (σ : Store) (hd : Dom n σ) (x0 x1 x2 : Value) (h0 : (∃ acs, x0 = .agg ⟨acs⟩ ∧ g65.G σ acs)) (h1 : g23.G σ [x1]) (h2 : (∃ acs, x2 = .agg ⟨acs⟩ ∧ g69.G σ acs)) : CQ Try.prog noDen 8 [x0, x1, x2] n σ (fun v _ _ => v = .bool true) := by
  obtain ⟨acs0, rfl, k0⟩ := h0
  obtain ⟨_, _, rfl, ⟨a2, rfl, w2⟩, _, _, rfl, ⟨a3, rfl, w3⟩, rfl⟩ := k0
  obtain ⟨b1, q1, w1⟩ := h1
  cases q1
  obtain ⟨acs2, rfl, k2⟩ := h2
  obtain ⟨_, _, rfl, ⟨a5, rfl, w5⟩, _, _, rfl, ⟨a6, rfl, w6⟩, rfl⟩ := k2
  obtain ⟨i, rfl⟩ := wf_word w1
  obtain ⟨a, rfl⟩ := wf_word w5
  obtain ⟨b, rfl⟩ := wf_word w6
  exact CQ.ps hd (sLaw a2 a3 i a b) fun _ _ => rfl
end Go.Proofs.Ytmdncojhnbbafaa.Vt
