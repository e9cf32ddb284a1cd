/- ParamFinds: the first parameter of a type is found: for every list of parameters (of which 20 are looked at) and every type. No condition. -/
import Derived.Test.YtmdncojhnbbafaaFindP
import Derived.Test.YtmdncojhnbbafaaGoodParamFinds
namespace Go.Proofs.Ytmdncojhnbbafaa.Pure
open Go Go.RowKit Go.Proofs.Ytmdncojhnbbafaa.PAll Go.Proofs.YtmdncojhnbbafaaW.PrintWords Go.Proofs.Ytmdncojhnbbafaa.Bt Go.Proofs.Ytmdncojhnbbafaa.Oc Go.Proofs.Ytmdncojhnbbafaa.Fd65
theorem pf_awake (k : Nat) (h : 30 ≤ k) : crosswaylaw04_awake.f k = some true := at_rounds crosswaylaw04_awake.mono h (by decide +kernel)
theorem pf_loop (l : List S65) (t : Int) (r : Int × ByteArray × Bool) (hr : FirstOf l t r) (hl : l.length ≤ 1000) : ∀ (d k : Nat) (i a : Int), i + 1 = d → i < l.length → d + 31 ≤ k → Back l t i a →
    crosswaylaw04_ParamFinds.l0 k t l r.2.2 a i r.1 r.2.1 = some true := by
  intro d
  induction d with
  | zero =>
    intro k i a hd hi hk hb
    obtain ⟨k, rfl⟩ : ∃ m, k = m + 1 := ⟨k - 1, by omega⟩
    have e : i = -1 := by omega
    subst e
    simp only [crosswaylaw04_ParamFinds.l0]
    rw [if_neg (by omega), pf_awake k (by omega)]
    simp only [Option.bind_some, if_true]
    rcases both hr hb with ⟨rfl, rfl⟩ | ⟨h0, h1, rfl⟩
    · have e : (⟨#[]⟩ : ByteArray).toList = [] := toList_mk []
      simp [e]
    · simp [h0, h1]
  | succ d ih =>
    intro k i a hd hi hk hb
    obtain ⟨k, rfl⟩ : ∃ m, k = m + 1 := ⟨k - 1, by omega⟩
    simp only [crosswaylaw04_ParamFinds.l0]
    rw [if_pos (by omega), if_pos (by omega), if_pos hi, w64 (by omega) (by omega)]
    by_cases e : (rd_T65 l i).f0 = t
    · rw [if_pos e]
      exact ih k (i - 1) i (by omega) (by omega) (by omega) (back_yes hb hi e)
    · rw [if_neg e]
      exact ih k (i - 1) a (by omega) (by omega) (by omega) (back_no hb e)
theorem ParamFinds : GoodParamFinds.Pure := by
  intro l t hg ht
  refine ⟨1100, ?_⟩
  have em : mn (l.length : Int) 20 = ((min l.length 20 : Nat) : Int) := mn_nat l.length 20
  unfold crosswaylaw04_ParamFinds.f
  rw [em, if_pos (by omega), if_pos (by omega), Int.toNat_natCast]
  simp only [Option.bind_some]
  have hle : (l.take (min l.length 20)).length ≤ 20 := by rw [List.length_take]; omega
  generalize l.take (min l.length 20) = m at hle
  obtain ⟨r, hr, hf⟩ := find_eq m t (by omega) 1100 (by omega)
  rw [hr]
  simp only [Option.bind_some]
  rw [w64 (by omega) (by omega)]
  exact pf_loop m t r hf (by omega) m.length 1100 _ _ (by omega) (by omega) (by omega) (.inl ⟨rfl, fun j h0 h1 => by omega⟩)
end Go.Proofs.Ytmdncojhnbbafaa.Pure
