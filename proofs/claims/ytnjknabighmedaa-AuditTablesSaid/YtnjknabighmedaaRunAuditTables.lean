/- The pure part of AuditTables: both count the same keys. -/
import Derived.Test.YtnjknabighmedaaAv
namespace Go.Proofs.Ytnjknabighmedaa.Vt
open Go Go.Proofs Go.Proofs.YtnjknabighmedaaV
theorem wf_word {b : Int} (h : (Lit.int .u32 b).wf = true) : ∃ x : BitVec 32, b = ((x.toNat : Nat) : Int) := by
  have h2 : 0 ≤ b ∧ b < 4294967296 := by
    simp [Lit.wf, IntKind.min, IntKind.max, IntKind.signed, IntKind.bits] at h
    omega
  exact ⟨BitVec.ofNat 32 b.toNat, by rw [BitVec.toNat_ofNat]; omega⟩
theorem wf_byte {b : Int} (h : (Lit.int .u8 b).wf = true) : ∃ c : UInt8, b = ((c.toNat : Nat) : Int) := by
  have h2 : 0 ≤ b ∧ b < 256 := by
    simp [Lit.wf, IntKind.min, IntKind.max, IntKind.signed, IntKind.bits] at h
    omega
  exact ⟨UInt8.ofNat b.toNat, by simp [UInt8.toNat_ofNat']; omega⟩
theorem wf_i64 {b : Int} (h : (Lit.int .i64 b).wf = true) : -9223372036854775808 ≤ b ∧ b ≤ 9223372036854775807 := by
  simp [Lit.wf, IntKind.min, IntKind.max, IntKind.signed, IntKind.bits] at h
  omega
theorem rows_of {σ : Store} : ∀ {es : List (List Value)}, (∀ x ∈ es, g26.G σ x) → ∃ l : List Ent, es = l.map ecell
  | [], _ => ⟨[], rfl⟩
  | x :: es, h => by
    obtain ⟨l, rfl⟩ := rows_of (es := es) (fun y hy => h y (List.mem_cons_of_mem _ hy))
    obtain ⟨_, _, rfl, ⟨a0, rfl, w0⟩, _, _, rfl, ⟨a1, rfl, w1⟩, _, _, rfl, ⟨a2, rfl, w2⟩, _, _, rfl, ⟨a3, rfl, w3⟩, _, _, rfl, ⟨a4, rfl, w4⟩, _, _, rfl, ⟨a5, rfl, w5⟩, _, _, rfl, ⟨a6, rfl, w6⟩, rfl⟩ := h x (List.mem_cons_self ..)
    obtain ⟨b0, rfl⟩ := wf_word w0
    obtain ⟨b2, rfl⟩ := wf_word w2
    obtain ⟨b4, rfl⟩ := wf_word w4
    obtain ⟨b5, rfl⟩ := wf_word w5
    exact ⟨⟨b0, a1, b2, a3, b4, b5, a6⟩ :: l, rfl⟩
theorem runAuditTables (n : Nat) (σ : Store) (hd : Dom n σ) (x0 x1 : Value) (h0 : g22.G σ [x0]) (h1 : g3.G σ [x1]) : CQ Try.prog noDen 3 [x0, x1] n σ (fun v _ _ => v = .bool true) := by
  obtain ⟨v, e0, q0, r0, w0⟩ := h0
  cases q0
  obtain ⟨b1, q1, w1⟩ := h1
  cases q1
  obtain ⟨l, rfl⟩ := rows_of w0
  cases hl : l with
  | nil =>
    subst hl
    cases r0 with
    | nil => exact CQ.ps hd (aLaw2 b1) fun _ _ => rfl
    | zero i => exact CQ.ps hd (aLaw3 i b1) fun _ _ => rfl
    | obj h => exact CQ.ps hd (aLaw1 [] _ b1 h) fun _ _ => rfl
  | cons a l2 =>
    subst hl
    cases r0 with
    | @obj i _ h =>
      have := aLaw1 (a :: l2) _ b1 h
      rw [← List.length_map (f := ecell)] at this
      exact CQ.ps hd this fun _ _ => rfl
end Go.Proofs.Ytnjknabighmedaa.Vt
