/- The pure part of AuthKey. -/
import Derived.Test.YtdnkhdkflemkeaaAk2
namespace Go.Proofs.Ytdnkhdkflemkeaa.Vt
open Go Go.Proofs Go.Proofs.YtdnkhdkflemkeaaV
theorem runAuthKey (n : Nat) (σ : Store) (hd : Dom n σ) (x0 x1 : Value) (h0 : g9.G σ [x0]) (h1 : g9.G σ [x1]) : CQ Try.prog noDen 13 [x0, x1] n σ (fun v _ _ => v = .bool true) := by
  obtain ⟨b0, q0, w0⟩ := h0
  cases q0
  obtain ⟨b1, q1, w1⟩ := h1
  cases q1
  exact CQ.ps hd (kLaw b0 b1) fun _ _ => rfl
end Go.Proofs.Ytdnkhdkflemkeaa.Vt
