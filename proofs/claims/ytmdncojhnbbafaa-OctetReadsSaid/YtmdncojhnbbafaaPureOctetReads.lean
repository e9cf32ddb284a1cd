/- OctetReads: whatever is read of whatever bytes is what the document says, up to the first error, which stays: for every string (of which 200 bytes are looked at) and every list of acts (the first 20). No condition. -/
import Derived.Test.YtmdncojhnbbafaaReads
import Derived.Test.YtmdncojhnbbafaaGoodOctetReads
import Derived.Test.YtmdncojhnbbafaaPAllx25
namespace Go.Proofs.Ytmdncojhnbbafaa.Pure
open Go Go.RowKit Go.Proofs.Ytmdncojhnbbafaa.PAll Go.Proofs.YtmdncojhnbbafaaW.PrintWords Go.Proofs.Ytmdncojhnbbafaa.Bt Go.Proofs.Ytmdncojhnbbafaa.Oc Go.Proofs.Ytmdncojhnbbafaa.Rd
theorem or_awake (k : Nat) (h : 30 ≤ k) : crosswaylaw03_awake.f k = some true := at_rounds crosswaylaw03_awake.mono h (by decide +kernel)
theorem or_loop (acts : List S47) : ∀ (d k i : Nat) (l : List UInt8) (e : Int), 20 - i = d → i ≤ 20 → 5 * d + 40 ≤ k → crosswaylaw03_OctetReads.l0 k acts (i : Int) (mk l) e (rf l e) e = some true := by
  intro d
  induction d with
  | zero =>
    intro k i l e hd hi hk
    obtain ⟨k, rfl⟩ : ∃ m, k = m + 2 := ⟨k - 2, by omega⟩
    have h20 : decide ((i : Int) < 20) = false := decide_eq_false (by omega)
    obtain ⟨s, e', hE⟩ := End_eq l e k (by omega)
    simp only [crosswaylaw03_OctetReads.l0, crosswaylaw03_OctetReads.j1, h20, or_awake k (by omega), hE, rEnd, Option.bind_some]
    simp
  | succ d ih =>
    intro k i l e hd hi hk
    obtain ⟨k, rfl⟩ : ∃ m, k = m + 3 := ⟨k - 3, by omega⟩
    by_cases hlt : (i : Int) < (acts.length : Int)
    · have h20 : decide ((i : Int) < 20) = true := decide_eq_true (by omega)
      have next : ∀ (l2 : List UInt8) (e2 : Int), crosswaylaw03_OctetReads.j2 (k + 1) acts (i : Int) true (mk l2) e2 (rf l2 e2) e2 = some true := by
        intro l2 e2
        have := ih k (i + 1) l2 e2 (by omega) (by omega) (by omega)
        simp only [crosswaylaw03_OctetReads.j2, Err_eq, Left_eq, Option.bind_some, if_true, rf_size]
        rw [w64 (by omega) (by omega)]
        exact this
      simp only [crosswaylaw03_OctetReads.l0, crosswaylaw03_OctetReads.j1, if_pos hlt, h20, if_true]
      rw [if_pos (by omega)]
      have h1 := num_tk l e 1 1 rfl
      have h2 := num_tk l e 2 2 rfl
      have h4 := num_tk l e 4 4 rfl
      split
      · rw [rNum l e 1 _ (by omega) (by omega), rU8_eq l e _ (by omega)]
        simp only [Option.bind_some]
        rw [w64 (by omega) (by omega), beq_self_eq_true]
        exact next _ _
      · split
        · rw [rNum l e 2 _ (by omega) (by omega), rU16_eq l e _ (by omega)]
          simp only [Option.bind_some]
          rw [w64 (by omega) (by omega), beq_self_eq_true]
          exact next _ _
        · split
          · rw [rNum l e 4 _ (by omega) (by omega), rU32_eq l e _ (by omega)]
            simp only [Option.bind_some]
            rw [Int.emod_eq_of_lt (by omega) (by omega), beq_self_eq_true]
            exact next _ _
          · split
            · rw [rNum l e 8 _ (by omega) (by omega), rU64_eq l e _ (by omega)]
              simp only [Option.bind_some, beq_self_eq_true]
              exact next _ _
            · split
              · rw [rTake, Take_eq]
                simp only [Option.bind_some, beq_self_eq_true]
                exact next _ _
              · split
                · rw [rf_size, rTake, Rest_eq]
                  simp only [Option.bind_some]
                  by_cases he : e = 0
                  · subst he
                    rw [if_pos rfl, tk_ok (by omega) (by omega)]
                    have := next [] 0
                    simpa using this
                  · rw [if_neg he, tk_bad (by omega)]
                    have := next l e
                    simpa [he] using this
                · have ea : Go.bits .and .i64 ((rd_T47 acts (i : Int)).f1) 255 = (rd_T47 acts (i : Int)).f1 % 256 := and_i64 _ 255 8 rfl (by omega)
                  obtain ⟨n, hn⟩ : ∃ n : Nat, (rd_T47 acts (i : Int)).f1 % 256 = (n : Int) := Int.eq_ofNat_of_zero_le (Int.emod_nonneg _ (by omega))
                  have hlt2 : n < 256 := by omega
                  rw [ea, hn, Fill_eq l e n (by omega), rFill l e n _ (by omega) (by omega)]
                  simp only [Option.bind_some]
                  exact next _ _
    · obtain ⟨s, e', hE⟩ := End_eq l e (k + 1) (by omega)
      simp only [crosswaylaw03_OctetReads.l0, crosswaylaw03_OctetReads.j1, if_neg hlt, or_awake (k + 1) (by omega), hE, rEnd, Option.bind_some]
      simp
theorem OctetReads : GoodOctetReads.Pure := by
  intro s acts hs ha
  obtain ⟨K, hK⟩ : ∃ K : Nat, K = 200 := ⟨_, rfl⟩
  refine ⟨K, ?_⟩
  obtain ⟨l, rfl⟩ : ∃ l, s = mk l := ⟨_, eq_mk s⟩
  have em : mn (l.length : Int) 200 = ((min l.length 200 : Nat) : Int) := mn_nat l.length 200
  unfold crosswaylaw03_OctetReads.f octet_New.f
  rw [size_mk, em, if_pos (by omega), if_pos (by omega), extract_mk, Int.toNat_natCast, List.drop_zero]
  simp only [Option.bind_some]
  have h := or_loop acts 20 K 0 (l.take (min l.length 200)) 0 (by omega) (by omega) (by omega)
  rw [rf_ok, Int.natCast_zero] at h
  exact h
end Go.Proofs.Ytmdncojhnbbafaa.Pure
