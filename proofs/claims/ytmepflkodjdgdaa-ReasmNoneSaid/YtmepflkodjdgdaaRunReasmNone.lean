/- The pure part of ReasmNone. -/
import Derived.Test.YtmepflkodjdgdaaRn1
namespace Go.Proofs.Ytmepflkodjdgdaa.Vt
open Go Go.Proofs Go.Proofs.YtmepflkodjdgdaaV
theorem runReasmNone (n : Nat) (σ : Store) (hd : Dom n σ) (x0 : Value) (h0 : (∃ acs, x0 = .agg ⟨acs⟩ ∧ g54.G σ acs)) : CQ Try.prog noDen 8 [x0] n σ (fun v _ _ => v = .bool true) := by
  obtain ⟨acs0, rfl, k0⟩ := h0
  obtain ⟨_, _, rfl, ⟨a0, rfl, w0⟩, _, _, rfl, ⟨a1, rfl, w1⟩, _, _, rfl, ⟨a2, rfl, w2⟩, _, _, rfl, ⟨a3, rfl, w3⟩, _, _, rfl, ⟨a4, rfl, w4⟩, _, _, rfl, ⟨a5, rfl, w5⟩, _, _, rfl, ⟨a6, rfl, w6⟩, _, _, rfl, ⟨a7, rfl, w7⟩, _, _, rfl, ⟨a8, rfl, w8⟩, _, _, rfl, ⟨a9, rfl, w9⟩, _, _, rfl, ⟨a10, rfl, w10⟩, _, _, rfl, ⟨v11, e11, rfl, r11, w11⟩, _, _, rfl, ⟨v12, e12, rfl, r12, w12⟩, _, _, rfl, ⟨v13, e13, rfl, r13, w13⟩, _, _, rfl, ⟨v14, e14, rfl, r14, w14⟩, rfl⟩ := k0
  obtain ⟨p11, q11, rfl⟩ := r11.shape
  obtain ⟨p12, q12, rfl⟩ := r12.shape
  obtain ⟨p13, q13, rfl⟩ := r13.shape
  obtain ⟨p14, q14, rfl⟩ := r14.shape
  exact rNone hd _ _ _ _ _ _ _ _ _ _ _ _ _ _ _ _ _ _ _ _ _ _ _
end Go.Proofs.Ytmepflkodjdgdaa.Vt
