/- ParamPuts: a parameter has the document's bytes, and is read again; one that may not be has none: for every type and every value (of which 1100 bytes are looked at). No condition. -/
import Derived.Test.YtmdncojhnbbafaaLemParamPuts
import Derived.Test.YtmdncojhnbbafaaGoodParamPuts
namespace Go.Proofs.Ytmdncojhnbbafaa.Pure
open Go Go.RowKit Go.Proofs.Ytmdncojhnbbafaa.PAll Go.Proofs.YtmdncojhnbbafaaW.PrintWords Go.Proofs.Ytmdncojhnbbafaa.Bt Go.Proofs.Ytmdncojhnbbafaa.Oc Go.Proofs.Ytmdncojhnbbafaa.Rd Go.Proofs.Ytmdncojhnbbafaa.Pm
theorem pp_awake (k : Nat) (h : 30 ≤ k) : crosswaylaw04_awake.f k = some true := at_rounds crosswaylaw04_awake.mono h (by decide +kernel)
theorem ParamPuts : GoodParamPuts.Pure := by
  intro x hx
  obtain ⟨K, hK⟩ : ∃ K : Nat, K = 2000 := ⟨_, rfl⟩
  refine ⟨K, ?_⟩
  obtain ⟨t, s⟩ := x
  obtain ⟨l, rfl⟩ : ∃ l, s = mk l := ⟨_, eq_mk s⟩
  have em : mn (l.length : Int) 1100 = ((min l.length 1100 : Nat) : Int) := mn_nat l.length 1100
  unfold crosswaylaw04_ParamPuts.f
  simp only
  rw [size_mk, em, if_pos (by omega), if_pos (by omega), extract_mk, Int.toNat_natCast, List.drop_zero]
  have hl : (l.take (min l.length 1100)).length ≤ 1100 := by rw [List.length_take]; omega
  generalize l.take (min l.length 1100) = v at hl
  have hp := pput_length (t, v)
  simp only [Put_p, Option.bind_some, pAll_eq (pput (t, v)) (by omega) K (by omega), May_eq, rMay_eq, pp_awake K (by omega), if_true, rPut_p t v K (by omega), decide_eq_true_eq]
  by_cases h : Valid (t, v)
  · have hpp : pput (t, v) = [(t, v)].flatMap pbytes := by unfold pput; rw [if_pos h]; simp
    have ha := pall_put [(t, v)] 17 [] (by simp) (by simp) (fun y hy => by rw [List.mem_singleton.1 hy]; exact h)
    rw [if_pos h, hpp, ha]
    simp [rd_T65, p65]
  · have hpp : pput (t, v) = [] := by unfold pput; rw [if_neg h]
    rw [if_neg h, hpp]
    simp [toList_mk, h]
end Go.Proofs.Ytmdncojhnbbafaa.Pure
