/- The pure part of GapsPlays. -/
import Derived.Test.YtmepflkodjdgdaaGp8
namespace Go.Proofs.Ytmepflkodjdgdaa.Vt
open Go Go.Proofs Go.Proofs.YtmepflkodjdgdaaV
theorem wf_word {b : Int} (h : (Lit.int .u32 b).wf = true) : ∃ x : BitVec 32, b = ((x.toNat : Nat) : Int) := by
  have h2 : 0 ≤ b ∧ b < 4294967296 := by
    simp [Lit.wf, IntKind.min, IntKind.max, IntKind.signed, IntKind.bits] at h
    omega
  exact ⟨BitVec.ofNat 32 b.toNat, by rw [BitVec.toNat_ofNat]; omega⟩
theorem wf_byte {b : Int} (h : (Lit.int .u8 b).wf = true) : ∃ c : UInt8, b = ((c.toNat : Nat) : Int) := by
  have h2 : 0 ≤ b ∧ b < 256 := by
    simp [Lit.wf, IntKind.min, IntKind.max, IntKind.signed, IntKind.bits] at h
    omega
  exact ⟨UInt8.ofNat b.toNat, by simp [UInt8.toNat_ofNat']; omega⟩
theorem wf_i64 {b : Int} (h : (Lit.int .i64 b).wf = true) : -9223372036854775808 ≤ b ∧ b ≤ 9223372036854775807 := by
  simp [Lit.wf, IntKind.min, IntKind.max, IntKind.signed, IntKind.bits] at h
  omega
theorem rowsW {σ : Store} : ∀ {es : List (List Value)}, (∀ x ∈ es, g27.G σ x) → ∃ l : List Wx, es = l.map cWx
  | [], _ => ⟨[], rfl⟩
  | x :: es, h => by
    obtain ⟨l, rfl⟩ := rowsW (es := es) (fun y hy => h y (List.mem_cons_of_mem _ hy))
    obtain ⟨a0, rfl, w0⟩ := h x (List.mem_cons_self ..)
    obtain ⟨b0, rfl⟩ := wf_word w0
    exact ⟨⟨b0⟩ :: l, rfl⟩
theorem runGapsPlays (n : Nat) (σ : Store) (hd : Dom n σ) (hn0 : 0 < n) (x0 x1 x2 : Value) (h0 : g27.G σ [x0]) (h1 : g52.G σ [x1]) (h2 : g3.G σ [x2]) : CQ Try.prog noDen 10 [x0, x1, x2] n σ (fun v _ _ => v = .bool true) := by
  obtain ⟨b0, q0, w0⟩ := h0
  cases q0
  obtain ⟨c0, rfl⟩ := wf_word w0
  obtain ⟨v, e1, q1, r1, w1⟩ := h1
  cases q1
  obtain ⟨a2, q2, w2⟩ := h2
  cases q2
  obtain ⟨l, rfl⟩ := rowsW w1
  exact gPlays hd hn0 c0 _ _ l r1.P
end Go.Proofs.Ytmepflkodjdgdaa.Vt
