/- The pure part of CookiePuts: what is put is what the document says, and is got again. -/
import Derived.Test.YtdnkhdkflemkeaaCk6
namespace Go.Proofs.Ytdnkhdkflemkeaa.Vt
open Go Go.Proofs Go.Proofs.YtdnkhdkflemkeaaV
theorem wf_word {b : Int} (h : (Lit.int .u32 b).wf = true) : ∃ x : BitVec 32, b = ((x.toNat : Nat) : Int) := by
  have h2 : 0 ≤ b ∧ b < 4294967296 := by
    simp [Lit.wf, IntKind.min, IntKind.max, IntKind.signed, IntKind.bits] at h
    omega
  exact ⟨BitVec.ofNat 32 b.toNat, by rw [BitVec.toNat_ofNat]; omega⟩
theorem wf_i64 {b : Int} (h : (Lit.int .i64 b).wf = true) : -9223372036854775808 ≤ b ∧ b ≤ 9223372036854775807 := by
  simp [Lit.wf, IntKind.min, IntKind.max, IntKind.signed, IntKind.bits] at h
  omega
theorem runCookiePuts (n : Nat) (σ : Store) (hd : Dom n σ) (x0 x1 x2 : Value) (h0 : g9.G σ [x0]) (h1 : (∃ acs, x1 = .agg ⟨acs⟩ ∧ g35.G σ acs)) (h2 : g3.G σ [x2]) (z1 : ∀ acs, x1 = .agg ⟨acs⟩ → ∀ s : ByteArray, (acs[14]? = some (.string s) ∨ acs[15]? = some (.string s)) → s.size ≤ 140737488351232) : CQ Try.prog noDen 8 [x0, x1, x2] n σ (fun v _ _ => v = .bool true) := by
  obtain ⟨b0, q0, w0⟩ := h0
  cases q0
  obtain ⟨acs1, rfl, k1⟩ := h1
  obtain ⟨_, _, rfl, ⟨a2, rfl, w2⟩, _, _, rfl, ⟨a3, rfl, w3⟩, _, _, rfl, ⟨a4, rfl, w4⟩, _, _, rfl, ⟨a5, rfl, w5⟩, _, _, rfl, ⟨a6, rfl, w6⟩, _, _, rfl, ⟨a7, rfl, w7⟩, _, _, rfl, ⟨a8, rfl, w8⟩, _, _, rfl, ⟨a9, rfl, w9⟩, _, _, rfl, ⟨a10, rfl, w10⟩, _, _, rfl, ⟨a11, rfl, w11⟩, _, _, rfl, ⟨a12, rfl, w12⟩, _, _, rfl, ⟨a13, rfl, w13⟩, _, _, rfl, ⟨a14, rfl, w14⟩, _, _, rfl, ⟨a15, rfl, w15⟩, _, _, rfl, ⟨a16, rfl, w16⟩, _, _, rfl, ⟨a17, rfl, w17⟩, rfl⟩ := k1
  obtain ⟨y3, rfl⟩ := wf_word w3
  obtain ⟨y4, rfl⟩ := wf_word w4
  obtain ⟨y5, rfl⟩ := wf_word w5
  obtain ⟨y6, rfl⟩ := wf_word w6
  obtain ⟨y7, rfl⟩ := wf_word w7
  obtain ⟨y8, rfl⟩ := wf_word w8
  obtain ⟨y11, rfl⟩ := wf_word w11
  obtain ⟨y14, rfl⟩ := wf_word w14
  obtain ⟨y15, rfl⟩ := wf_word w15
  have z16 := z1 _ rfl a16 (.inl rfl)
  have z17 := z1 _ rfl a17 (.inr rfl)
  have m2 := wf_i64 w2
  obtain ⟨b2, q2, w2'⟩ := h2
  cases q2
  exact CQ.ps hd (s8 b0 ⟨a2, y3, y4, y5, y6, y7, y8, a9, a10, y11, a12, a13, y14, y15, a16, a17⟩ (by show a2 < _; omega) (by show a16.size < _; omega) (by show a17.size < _; omega) b2 (wf_i64 w2')) fun _ _ => rfl
end Go.Proofs.Ytdnkhdkflemkeaa.Vt
