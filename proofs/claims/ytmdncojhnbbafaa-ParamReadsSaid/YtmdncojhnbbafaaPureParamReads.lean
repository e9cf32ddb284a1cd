/- ParamReads: whatever bytes come, they are the document's parameters, or the first error; what was read has these bytes: for every string (of which 300 bytes are looked at). No condition. -/
import Derived.Test.YtmdncojhnbbafaaLemParamReads
import Derived.Test.YtmdncojhnbbafaaPAllx49
namespace Go.Proofs.Ytmdncojhnbbafaa.Pure
open Go Go.RowKit Go.Proofs.Ytmdncojhnbbafaa.PAll Go.Proofs.YtmdncojhnbbafaaW.PrintWords Go.Proofs.YtmdncojhnbbafaaW.PrintLast Go.Proofs.Ytmdncojhnbbafaa.Bt Go.Proofs.Ytmdncojhnbbafaa.Oc Go.Proofs.Ytmdncojhnbbafaa.Rd Go.Proofs.Ytmdncojhnbbafaa.Pm
theorem pr_awake (k : Nat) (h : 30 ≤ k) : crosswaylaw04_awake.f k = some true := at_rounds crosswaylaw04_awake.mono h (by decide +kernel)
theorem pr_same (xs : List It) (hx : xs.length ≤ 1000) : ∀ (d k i : Nat), xs.length - i = d → i ≤ xs.length → d < k → crosswaylaw04_same.l0 k (xs.map p65) (xs.map p85) (i : Int) = some true := by
  intro d
  induction d with
  | zero =>
    intro k i hd hi hk
    obtain ⟨k, rfl⟩ : ∃ m, k = m + 1 := ⟨k - 1, by omega⟩
    simp only [crosswaylaw04_same.l0, List.length_map]
    rw [if_neg (by omega)]
  | succ d ih =>
    intro k i hd hi hk
    obtain ⟨k, rfl⟩ : ∃ m, k = m + 1 := ⟨k - 1, by omega⟩
    have hlt : i < xs.length := by omega
    simp only [crosswaylaw04_same.l0, List.length_map]
    rw [if_pos (by omega), if_pos (by omega), if_pos (by omega), rd_p65 xs i hlt, rd_p85 xs i hlt, w64 (by omega) (by omega)]
    have := ih k (i + 1) (by omega) (by omega) (by omega)
    simpa [p65, p85] using this
theorem ParamReads : crosswaylaw04_ParamReads.Pure := by
  intro s hs
  obtain ⟨K, hK⟩ : ∃ K : Nat, K = 2000 := ⟨_, rfl⟩
  refine ⟨K + 1, ?_⟩
  obtain ⟨l, rfl⟩ : ∃ l, s = mk l := ⟨_, eq_mk s⟩
  have em : mn (l.length : Int) 300 = ((min l.length 300 : Nat) : Int) := mn_nat l.length 300
  unfold crosswaylaw04_ParamReads.f octet_New.f
  rw [size_mk, em, if_pos (by omega), if_pos (by omega), extract_mk, Int.toNat_natCast, List.drop_zero]
  have hl : (l.take (min l.length 300)).length ≤ 300 := by rw [List.length_take]; omega
  generalize l.take (min l.length 300) = t at hl
  obtain ⟨l', hT, hr⟩ := pTake_eq t (by omega) (K + 1) (by omega)
  simp only [Option.bind_some, pAll_eq t (by omega) (K + 1) (by omega), rAll_eq t (by omega) (K + 1) (by omega), hT, rTakeP t (by omega) (K + 1) (by omega), Err_eq, Left_eq, if_true, rf_size, beq_self_eq_true, Bool.not_true, Bool.or_self, Bool.false_eq_true, if_false]
  have hleft : (if (ptake t).2.2.2 = 0 then (l'.length : Int) else 0) = if (ptake t).2.2.2 = 0 then (((ptake t).2.2.1).length : Int) else 0 := by
    split
    · rename_i h
      rw [hr h]
    · rfl
  rw [hleft]
  simp only [bne_self_eq_false, crosswaylaw04_ParamReads.j0, Bool.false_eq_true, if_false, pr_awake K (by omega), Option.bind_some, if_true]
  by_cases h : (pall 17 [] t).2 = 0
  · obtain ⟨g1, g2, g3⟩ := pall_bytes 17 [] t h (fun x hx => by cases hx)
    simp only [List.flatMap_nil, List.nil_append] at g1
    have hlen : (pall 17 [] t).1.length ≤ 16 := by simpa using g3
    have hsame : crosswaylaw04_same.f K ((pall 17 [] t).1.map p65) ((pall 17 [] t).1.map p85) = some true := by
      unfold crosswaylaw04_same.f
      rw [List.length_map, List.length_map, if_pos rfl]
      exact pr_same _ (by omega) _ K 0 rfl (by omega) (by omega)
    rw [hsame, h, PutAll_eq _ (by omega) K (by omega), pput_valid g2, g1]
    simp
  · have hnil : (pall 17 [] t).1.length ≤ 16 := by
      have key : ∀ (f : Nat) (out : List It) (l : List UInt8), (pall f out l).2 ≠ 0 → (pall f out l).1 = [] := by
        intro f
        induction f with
        | zero => intro out l h; rfl
        | succ f ih =>
          intro out l h
          unfold pall at h ⊢
          split
          · rename_i h0
            rw [if_pos h0] at h
            exact absurd rfl h
          · rename_i h0
            rw [if_neg h0] at h
            split
            · rfl
            · rename_i h1
              rw [if_neg h1] at h
              split
              · rename_i h2
                rw [if_pos h2] at h
                exact ih _ _ h
              · rfl
      rw [key 17 [] t h]
      simp
    have hsame : crosswaylaw04_same.f K ((pall 17 [] t).1.map p65) ((pall 17 [] t).1.map p85) = some true := by
      unfold crosswaylaw04_same.f
      rw [List.length_map, List.length_map, if_pos rfl]
      exact pr_same _ (by omega) _ K 0 rfl (by omega) (by omega)
    rw [hsame]
    simp [h]
end Go.Proofs.Ytmdncojhnbbafaa.Pure
