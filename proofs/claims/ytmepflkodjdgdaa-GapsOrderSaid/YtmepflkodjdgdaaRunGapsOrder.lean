/- The pure part of GapsOrder. -/
import Derived.Test.YtmepflkodjdgdaaGp4
namespace Go.Proofs.Ytmepflkodjdgdaa.Vt
open Go Go.Proofs Go.Proofs.YtmepflkodjdgdaaV
theorem wf_word {b : Int} (h : (Lit.int .u32 b).wf = true) : ∃ x : BitVec 32, b = ((x.toNat : Nat) : Int) := by
  have h2 : 0 ≤ b ∧ b < 4294967296 := by
    simp [Lit.wf, IntKind.min, IntKind.max, IntKind.signed, IntKind.bits] at h
    omega
  exact ⟨BitVec.ofNat 32 b.toNat, by rw [BitVec.toNat_ofNat]; omega⟩
theorem wf_byte {b : Int} (h : (Lit.int .u8 b).wf = true) : ∃ c : UInt8, b = ((c.toNat : Nat) : Int) := by
  have h2 : 0 ≤ b ∧ b < 256 := by
    simp [Lit.wf, IntKind.min, IntKind.max, IntKind.signed, IntKind.bits] at h
    omega
  exact ⟨UInt8.ofNat b.toNat, by simp [UInt8.toNat_ofNat']; omega⟩
theorem wf_i64 {b : Int} (h : (Lit.int .i64 b).wf = true) : -9223372036854775808 ≤ b ∧ b ≤ 9223372036854775807 := by
  simp [Lit.wf, IntKind.min, IntKind.max, IntKind.signed, IntKind.bits] at h
  omega
theorem rowsBy {σ : Store} : ∀ {es : List (List Value)}, (∀ x ∈ es, g5.G σ x) → ∃ l : List By, es = l.map cBy ∧ ∀ b ∈ l, b.z < 256
  | [], _ => ⟨[], rfl, fun _ h => by cases h⟩
  | x :: es, h => by
    obtain ⟨l, rfl, hl⟩ := rowsBy (es := es) (fun y hy => h y (List.mem_cons_of_mem _ hy))
    obtain ⟨a, rfl, w⟩ := h x (List.mem_cons_self ..)
    obtain ⟨c, rfl⟩ := wf_byte w
    refine ⟨⟨c.toNat⟩ :: l, rfl, fun b hb => ?_⟩
    rcases List.mem_cons.1 hb with rfl | hb
    · exact UInt8.toNat_lt c
    · exact hl b hb
theorem runGapsOrder (n : Nat) (σ : Store) (hd : Dom n σ) (hn0 : 0 < n) (x0 x1 : Value) (h0 : g27.G σ [x0]) (h1 : g22.G σ [x1]) : CQ Try.prog noDen 9 [x0, x1] n σ (fun v _ _ => v = .bool true) := by
  obtain ⟨b0, q0, w0⟩ := h0
  cases q0
  obtain ⟨c0, rfl⟩ := wf_word w0
  obtain ⟨v, e1, q1, r1, w1⟩ := h1
  cases q1
  obtain ⟨l, rfl, hl⟩ := rowsBy w1
  exact gOrder hd hn0 c0 _ l r1.P hl
end Go.Proofs.Ytmepflkodjdgdaa.Vt
