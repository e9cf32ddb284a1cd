/- CauseReads: whatever bytes come, they are the document's causes, or the first error: for every string (of which 300 bytes are looked at). No condition. -/
import Derived.Test.YtmdncojhnbbafaaLemCauseReads
import Derived.Test.YtmdncojhnbbafaaPAllx43
namespace Go.Proofs.Ytmdncojhnbbafaa.Pure
open Go Go.RowKit Go.Proofs.Ytmdncojhnbbafaa.PAll Go.Proofs.YtmdncojhnbbafaaW.PrintWords Go.Proofs.YtmdncojhnbbafaaW.PrintLast Go.Proofs.Ytmdncojhnbbafaa.Bt Go.Proofs.Ytmdncojhnbbafaa.Oc Go.Proofs.Ytmdncojhnbbafaa.Rd Go.Proofs.Ytmdncojhnbbafaa.Pm
theorem cr_awake : crosswaylaw05_awake.f = some true := by decide +kernel
theorem cr_same (xs : List It) (hx : xs.length ≤ 1000) : ∀ (d k i : Nat), xs.length - i = d → i ≤ xs.length → d < k → crosswaylaw05_CauseReads.l0 k (xs.map p25) (xs.map p85) (i : Int) = some true := by
  intro d
  induction d with
  | zero =>
    intro k i hd hi hk
    obtain ⟨k, rfl⟩ : ∃ m, k = m + 1 := ⟨k - 1, by omega⟩
    simp only [crosswaylaw05_CauseReads.l0, List.length_map]
    rw [if_neg (by omega)]
  | succ d ih =>
    intro k i hd hi hk
    obtain ⟨k, rfl⟩ : ∃ m, k = m + 1 := ⟨k - 1, by omega⟩
    have hlt : i < xs.length := by omega
    simp only [crosswaylaw05_CauseReads.l0, List.length_map, crosswaylaw05_ref.f, Option.bind_some]
    rw [if_pos (by omega), if_pos (by omega), if_pos (by omega), rd_p25 xs i hlt, rd_p85 xs i hlt, w64 (by omega) (by omega)]
    have := ih k (i + 1) (by omega) (by omega) (by omega)
    simpa [p25, p85] using this
theorem CauseReads : crosswaylaw05_CauseReads.Pure := by
  intro s hs
  obtain ⟨K, hK⟩ : ∃ K : Nat, K = 2000 := ⟨_, rfl⟩
  refine ⟨K + 1, ?_⟩
  obtain ⟨l, rfl⟩ : ∃ l, s = mk l := ⟨_, eq_mk s⟩
  have em : mn (l.length : Int) 300 = ((min l.length 300 : Nat) : Int) := mn_nat l.length 300
  unfold crosswaylaw05_CauseReads.f
  rw [size_mk, em, if_pos (by omega), if_pos (by omega), extract_mk, Int.toNat_natCast, List.drop_zero]
  have hl : (l.take (min l.length 300)).length ≤ 300 := by rw [List.length_take]; omega
  generalize l.take (min l.length 300) = t at hl
  have hlen := pall_length t
  have hsame := cr_same (pall 17 [] t).1 (by omega) _ K 0 rfl (by omega) (by omega)
  rw [Int.natCast_zero] at hsame
  simp only [Option.bind_some, cAll_eq t (by omega) (K + 1) (by omega), rAll_eq t (by omega) (K + 1) (by omega), cr_awake, if_true, crosswaylaw05_CauseReads.j0, List.length_map, bne_self_eq_false, Bool.false_eq_true, if_false]
  exact hsame
end Go.Proofs.Ytmdncojhnbbafaa.Pure
