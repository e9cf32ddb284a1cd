/- ParamAnswers: of an answer it is told of which request, and whether it was done: for every parameter (30 bytes of its value), every number, every reason (30 bytes). No condition. -/
import Derived.Test.YtmdncojhnbbafaaLemParamAnswers
import Derived.Test.YtmdncojhnbbafaaGoodParamAnswers
namespace Go.Proofs.Ytmdncojhnbbafaa.Pure
open Go Go.RowKit Go.Proofs.Ytmdncojhnbbafaa.PAll Go.Proofs.YtmdncojhnbbafaaW.PrintWords Go.Proofs.Ytmdncojhnbbafaa.Bt Go.Proofs.Ytmdncojhnbbafaa.Oc Go.Proofs.Ytmdncojhnbbafaa.Rd Go.Proofs.Ytmdncojhnbbafaa.Pm
set_option linter.unusedVariables false
set_option linter.unusedSimpArgs false
theorem pa_awake (k : Nat) (h : 30 ≤ k) : crosswaylaw04_awake.f k = some true := at_rounds crosswaylaw04_awake.mono h (by decide +kernel)
theorem pa_j0 (t : Int) (v : List UInt8) (k : Nat) (hk : 11 ≤ k) : crosswaylaw04_ParamAnswers.j0 k false t (mk v) = some true := by
  obtain ⟨k, rfl⟩ : ∃ m, k = m + 1 := ⟨k - 1, by omega⟩
  simp only [crosswaylaw04_ParamAnswers.j0, Bool.false_eq_true, if_false, AsAnswer_eq t v k (by omega), kind_eq t v 0 k (by omega), Option.bind_some, size_mk]
  by_cases h4 : v.length = 4
  · by_cases h1 : t = 49157
    · simp [h4, h1]
    · simp [h4, h1]
  · have g4 : ¬ ((v.length : Int) = 4) := by omega
    by_cases h5 : v.length > 4
    · have g5 : (v.length : Int) > 4 := by omega
      have g6 : 4 ≤ v.length := by omega
      by_cases h2 : t = 49155
      · simp [h4, g4, h5, g5, g6, h2]
      · simp [h4, g4, h5, g5, g6, h2]
    · have g5 : ¬ ((v.length : Int) > 4) := by omega
      simp [h4, g4, h5, g5]
theorem ParamAnswers : GoodParamAnswers.Pure := by
  intro x id w hx hid hw
  obtain ⟨h0, h1⟩ := u32_bd hid
  obtain ⟨K, hK⟩ : ∃ K : Nat, K = 2000 := ⟨_, rfl⟩
  refine ⟨K, ?_⟩
  obtain ⟨t, s⟩ := x
  obtain ⟨l, rfl⟩ : ∃ l, s = mk l := ⟨_, eq_mk s⟩
  obtain ⟨m, rfl⟩ : ∃ m, w = mk m := ⟨_, eq_mk w⟩
  have em : mn (l.length : Int) 30 = ((min l.length 30 : Nat) : Int) := mn_nat l.length 30
  have em2 : mn (m.length : Int) 30 = ((min m.length 30 : Nat) : Int) := mn_nat m.length 30
  unfold crosswaylaw04_ParamAnswers.f
  simp only
  rw [size_mk, size_mk, em, em2, if_pos (by omega), if_pos (by omega), if_pos (by omega), if_pos (by omega), extract_mk, extract_mk, Int.toNat_natCast, Int.toNat_natCast, List.drop_zero, List.drop_zero]
  have hl2 : (m.take (min m.length 30)).length ≤ 30 := by rw [List.length_take]; omega
  generalize l.take (min l.length 30) = v
  generalize m.take (min m.length 30) = y at hl2
  have hj := pa_j0 t v K (by omega)
  unfold param_Answer.f
  rw [toList_mk]
  by_cases hy : y = []
  · subst hy
    simp only [if_true, U32_eq, Option.bind_some, AsAnswer_eq _ _ K (by omega), be_length, pa_awake K (by omega)]
    have e : (be 4 id).take 4 = be 4 id := List.take_of_length_le (by rw [be_length]; omega)
    rw [e, num_be4 id h0 h1]
    simpa using hj
  · rw [if_neg hy]
    have hp := List.length_pos_iff.2 hy
    simp only [U32_eq, Option.bind_some, size_mk, be_length]
    rw [if_pos (by omega), mk_append]
    simp only [Option.bind_some, AsAnswer_eq _ _ K (by omega), pa_awake K (by omega), List.length_append, be_length]
    have e : (be 4 id ++ y).take 4 = be 4 id := by
      have := List.take_left (l₁ := be 4 id) (l₂ := y)
      rwa [be_length] at this
    have e2 : 4 + y.length > 4 := by omega
    have e3 : (y == []) = false := by simpa using hy
    rw [e, num_be4 id h0 h1, e3]
    simpa [e2] using hj
end Go.Proofs.Ytmdncojhnbbafaa.Pure
