/- The pure part of CookieGets: what is got of whatever bytes is what their seal and their words say. -/
import Derived.Test.YtdnkhdkflemkeaaCk5
namespace Go.Proofs.Ytdnkhdkflemkeaa.Vt
open Go Go.Proofs Go.Proofs.YtdnkhdkflemkeaaV
theorem runCookieGets (n : Nat) (σ : Store) (hd : Dom n σ) (x0 x1 x2 : Value) (h0 : g9.G σ [x0]) (h1 : g9.G σ [x1]) (h2 : g4.G σ [x2]) : CQ Try.prog noDen 9 [x0, x1, x2] n σ (fun v _ _ => v = .bool true) := by
  obtain ⟨b0, q0, w0⟩ := h0
  cases q0
  obtain ⟨b1, q1, w1⟩ := h1
  cases q1
  obtain ⟨b2, q2⟩ := h2
  cases q2
  cases b2 with
  | true => exact CQ.ps hd (s9t b0 b1) fun _ _ => rfl
  | false => exact CQ.ps hd (s9f b0 b1) fun _ _ => rfl
end Go.Proofs.Ytdnkhdkflemkeaa.Vt
