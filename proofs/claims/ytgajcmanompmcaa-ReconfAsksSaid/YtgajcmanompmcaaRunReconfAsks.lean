/- The pure part of ReconfAsks: one request is under way, its answer is taken once. -/
import Derived.Test.YtgajcmanompmcaaRa2
namespace Go.Proofs.Ytgajcmanompmcaa.Vt
open Go Go.Proofs Go.Proofs.YtgajcmanompmcaaV
theorem wf_word {b : Int} (h : (Lit.int .u32 b).wf = true) : ∃ x : BitVec 32, b = ((x.toNat : Nat) : Int) := by
  have h2 : 0 ≤ b ∧ b < 4294967296 := by
    simp [Lit.wf, IntKind.min, IntKind.max, IntKind.signed, IntKind.bits] at h
    omega
  exact ⟨BitVec.ofNat 32 b.toNat, by rw [BitVec.toNat_ofNat]; omega⟩
theorem wf_byte {b : Int} (h : (Lit.int .u8 b).wf = true) : ∃ c : UInt8, b = ((c.toNat : Nat) : Int) := by
  have h2 : 0 ≤ b ∧ b < 256 := by
    simp [Lit.wf, IntKind.min, IntKind.max, IntKind.signed, IntKind.bits] at h
    omega
  exact ⟨UInt8.ofNat b.toNat, by simp [UInt8.toNat_ofNat']; omega⟩
theorem wf_i64 {b : Int} (h : (Lit.int .i64 b).wf = true) : -9223372036854775808 ≤ b ∧ b ≤ 9223372036854775807 := by
  simp [Lit.wf, IntKind.min, IntKind.max, IntKind.signed, IntKind.bits] at h
  omega
theorem iRows {σ : Store} : ∀ {es : List (List Value)}, (∀ x ∈ es, g3.G σ x) → ∃ l : List I1, es = l.map cI1 ∧ ∀ q ∈ l, -9223372036854775808 ≤ q.z ∧ q.z ≤ 9223372036854775807
  | [], _ => ⟨[], rfl, fun q hq => by cases hq⟩
  | x :: es, h => by
    obtain ⟨l, rfl, hl⟩ := iRows (es := es) (fun y hy => h y (List.mem_cons_of_mem _ hy))
    obtain ⟨a, rfl, w⟩ := h x (List.mem_cons_self ..)
    refine ⟨⟨a⟩ :: l, rfl, fun q hq => ?_⟩
    rw [List.mem_cons] at hq
    rcases hq with rfl | hq
    · exact wf_i64 w
    · exact hl q hq
theorem runReconfAsks (n : Nat) (σ : Store) (hd : Dom n σ) (x0 x1 : Value) (h0 : g36.G σ [x0]) (h1 : g44.G σ [x1]) : CQ Try.prog noDen 7 [x0, x1] n σ (fun v _ _ => v = .bool true) := by
  obtain ⟨b0, q0, w0⟩ := h0
  cases q0
  obtain ⟨y, rfl⟩ := wf_word w0
  obtain ⟨v, e1, q1, r1, w1⟩ := h1
  cases q1
  obtain ⟨l, rfl, hl⟩ := iRows w1
  exact CQ.ps hd (aAsks y x1 l r1.P hl) fun _ _ => rfl
end Go.Proofs.Ytgajcmanompmcaa.Vt
