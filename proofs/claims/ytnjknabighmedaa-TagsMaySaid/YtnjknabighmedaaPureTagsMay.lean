/- TagsMay: which chunks may come in which state: for every number, of which the lowest byte is the type. No condition. -/
import Derived.Test.YtnjknabighmedaaLemTagsMay
import Derived.Test.YtnjknabighmedaaPTmx6
namespace Go.Proofs.Ytnjknabighmedaa.Pure
open Go Go.RowKit Go.Proofs.Ytnjknabighmedaa.PTm Go.Proofs.YtnjknabighmedaaW.PrintWords Go.Proofs.YtnjknabighmedaaW.PrintLast Go.Proofs.Ytnjknabighmedaa.Oc
set_option linter.unusedVariables false
set_option linter.unusedSimpArgs false
set_option maxRecDepth 100000
theorem tm_and (x : Int) : 0 ≤ Go.bits .and .i64 x 255 ∧ Go.bits .and .i64 x 255 < 256 := by
  have h : Go.bits .and .i64 x 255 = x % 256 := and_i64 x 255 8 rfl (by omega)
  rw [h]; omega
theorem tm_same : ∀ (n : Fin 256) (s : Fin 8), ∃ r : Bool, tags_May.f 10 (n.val : Int) 0 0 0 0 0 (⟨#[]⟩ : ByteArray) 0 0 0 0 ([] : List (S143)) ([] : List (S145)) ([] : List (S163)) ([] : List Int) (s.val : Int) = some r ∧ crosswaylaw22_may.f 10 (n.val : Int) (s.val : Int) = some r := by
  decide +kernel
theorem tm_awake (k : Nat) (h : 30 ≤ k) : crosswaylaw22_awake.f k = some true := at_rounds crosswaylaw22_awake.mono h (by decide +kernel)
theorem tm_loop (x : Int) : ∀ (d k : Nat) (i : Int), 0 ≤ i → i + d = 8 → 40 + d ≤ k → crosswaylaw22_TagsMay.l0 k x i = some true := by
  intro d
  induction d with
  | zero =>
    intro k i h0 hd hk
    obtain ⟨k, rfl⟩ : ∃ m, k = m + 1 := ⟨k - 1, by omega⟩
    simp only [crosswaylaw22_TagsMay.l0]
    rw [if_neg (by omega), tm_awake k (by omega)]
    rfl
  | succ d ih =>
    intro k i h0 hd hk
    obtain ⟨k, rfl⟩ : ∃ m, k = m + 1 := ⟨k - 1, by omega⟩
    obtain ⟨g0, g1⟩ := tm_and x
    obtain ⟨r, hr, hs⟩ := tm_same ⟨(Go.bits .and .i64 x 255).toNat, by omega⟩ ⟨i.toNat, by omega⟩
    simp only [Int.toNat_of_nonneg g0, Int.toNat_of_nonneg h0] at hr hs
    have hr' := at_rounds (tags_May.mono _ _ _ _ _ _ _ _ _ _ _ _ _ _ _ _) (show 10 ≤ k by omega) hr
    have hs' := at_rounds (crosswaylaw22_may.mono _ _) (show 10 ≤ k by omega) hs
    simp only [crosswaylaw22_TagsMay.l0]
    rw [if_pos (by omega), hr', hs', w64 (by omega) (by omega)]
    simp only [Option.bind_some, bne_self_eq_false, Bool.false_eq_true, if_false]
    exact ih k (i + 1) (by omega) (by omega) (by omega)
theorem TagsMay : crosswaylaw22_TagsMay.Pure := by
  intro a _
  refine ⟨60, ?_⟩
  unfold crosswaylaw22_TagsMay.f
  exact tm_loop a 8 60 0 (by omega) (by omega) (by omega)
end Go.Proofs.Ytnjknabighmedaa.Pure
