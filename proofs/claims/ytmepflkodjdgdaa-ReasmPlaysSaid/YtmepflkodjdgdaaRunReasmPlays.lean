/- The pure part of ReasmPlays. -/
import Derived.Test.YtmepflkodjdgdaaRs6
namespace Go.Proofs.Ytmepflkodjdgdaa.Vt
open Go Go.Proofs Go.Proofs.YtmepflkodjdgdaaV
theorem wf_word {b : Int} (h : (Lit.int .u32 b).wf = true) : ∃ x : BitVec 32, b = ((x.toNat : Nat) : Int) := by
  have h2 : 0 ≤ b ∧ b < 4294967296 := by
    simp [Lit.wf, IntKind.min, IntKind.max, IntKind.signed, IntKind.bits] at h
    omega
  exact ⟨BitVec.ofNat 32 b.toNat, by rw [BitVec.toNat_ofNat]; omega⟩
theorem wf_byte {b : Int} (h : (Lit.int .u8 b).wf = true) : ∃ c : UInt8, b = ((c.toNat : Nat) : Int) := by
  have h2 : 0 ≤ b ∧ b < 256 := by
    simp [Lit.wf, IntKind.min, IntKind.max, IntKind.signed, IntKind.bits] at h
    omega
  exact ⟨UInt8.ofNat b.toNat, by simp [UInt8.toNat_ofNat']; omega⟩
theorem wf_i64 {b : Int} (h : (Lit.int .i64 b).wf = true) : -9223372036854775808 ≤ b ∧ b ≤ 9223372036854775807 := by
  simp [Lit.wf, IntKind.min, IntKind.max, IntKind.signed, IntKind.bits] at h
  omega
theorem rowsPt {σ : Store} : ∀ {es : List (List Value)}, (∀ x ∈ es, g71.G σ x) → ∃ l : List Part, es = l.map cPart
  | [], _ => ⟨[], rfl⟩
  | x :: es, h => by
    obtain ⟨l, rfl⟩ := rowsPt (es := es) (fun y hy => h y (List.mem_cons_of_mem _ hy))
    obtain ⟨_, _, rfl, ⟨a0, rfl, w0⟩, _, _, rfl, ⟨a1, rfl, w1⟩, _, _, rfl, ⟨a2, rfl, w2⟩, _, _, rfl, ⟨a3, rfl, w3⟩, rfl⟩ := h x (List.mem_cons_self ..)
    exact ⟨⟨a0, a1, a2, a3⟩ :: l, rfl⟩
theorem runReasmPlays (n : Nat) (σ : Store) (hd : Dom n σ) (hn0 : 0 < n) (x0 x1 : Value) (h0 : g27.G σ [x0]) (h1 : g66.G σ [x1]) : CQ Try.prog noDen 7 [x0, x1] n σ (fun v _ _ => v = .bool true) := by
  obtain ⟨b0, q0, w0⟩ := h0
  cases q0
  obtain ⟨v, e1, q1, r1, w1⟩ := h1
  cases q1
  obtain ⟨t, rfl⟩ := wf_word w0
  obtain ⟨l, rfl⟩ := rowsPt w1
  exact rsLaw hd hn0 t _ l r1.P
end Go.Proofs.Ytmepflkodjdgdaa.Vt
