/- CausePuts: causes have the document's bytes, and are read again; one that may not be has none: for every list of causes (the first 16, of each 1100 bytes). No condition. -/
import Derived.Test.YtmdncojhnbbafaaLemCausePuts
import Derived.Test.YtmdncojhnbbafaaGoodCausePuts
import Derived.Test.YtmdncojhnbbafaaPAllx51
namespace Go.Proofs.Ytmdncojhnbbafaa.Pure
open Go Go.RowKit Go.Proofs.Ytmdncojhnbbafaa.PAll Go.Proofs.YtmdncojhnbbafaaW.PrintWords Go.Proofs.Ytmdncojhnbbafaa.Bt Go.Proofs.Ytmdncojhnbbafaa.Oc Go.Proofs.Ytmdncojhnbbafaa.Rd Go.Proofs.Ytmdncojhnbbafaa.Pm
theorem cp_awake : crosswaylaw05_awake.f = some true := by decide +kernel
theorem cp_l1 (ys : List It) (hy : ys.length ≤ 1000) : ∀ (d k i : Nat), ys.length - i = d → i ≤ ys.length → 2 * d + 2 ≤ k → crosswaylaw05_CausePuts.l1 k (ys.map p25) true (ys.map p25) (i : Int) = some true := by
  intro d
  induction d with
  | zero =>
    intro k i hd hi hk
    obtain ⟨k, rfl⟩ : ∃ m, k = m + 2 := ⟨k - 2, by omega⟩
    simp only [crosswaylaw05_CausePuts.l1, crosswaylaw05_CausePuts.j5, List.length_map]
    rw [if_neg (by omega)]
    simp
  | succ d ih =>
    intro k i hd hi hk
    obtain ⟨k, rfl⟩ : ∃ m, k = m + 2 := ⟨k - 2, by omega⟩
    have hlt : i < ys.length := by omega
    simp only [crosswaylaw05_CausePuts.l1, crosswaylaw05_CausePuts.j5, List.length_map, if_true]
    rw [if_pos (by omega), if_pos (by omega), if_pos (by omega), rd_p25 ys i hlt, w64 (by omega) (by omega)]
    have := ih k (i + 1) (by omega) (by omega) (by omega)
    simpa [hlt] using this
theorem cp_l1f (ys zs : List S25) (k : Nat) (hk : 2 ≤ k) : crosswaylaw05_CausePuts.l1 k ys false zs 0 = some true := by
  obtain ⟨k, rfl⟩ : ∃ m, k = m + 2 := ⟨k - 2, by omega⟩
  simp only [crosswaylaw05_CausePuts.l1, crosswaylaw05_CausePuts.j5]
  simp
/-- Behind the loop. -/
theorem cp_end (x0 : List S25) (i : Int) (ys : List It) (hy : ys.length ≤ 16) (k : Nat) (hk : 1200 ≤ k) :
    crosswaylaw05_CausePuts.j1 k x0 (ys.map p25) (mk (ys.flatMap pput)) (decide (∀ y ∈ ys, Valid y)) i false = some true := by
  obtain ⟨k, rfl⟩ : ∃ m, k = m + 2 := ⟨k - 2, by omega⟩
  have hlen : (ys.flatMap pput).length < 4611686018427387904 := by
    have key : ∀ zs : List It, (zs.flatMap pput).length ≤ 1010 * zs.length := by
      intro zs
      induction zs with
      | nil => simp
      | cons z zs ih =>
        have := pput_length z
        rw [List.flatMap_cons, List.length_append, List.length_cons]
        omega
    have := key ys
    omega
  simp only [crosswaylaw05_CausePuts.j1, Bool.false_eq_true, if_false, cPutAll_eq ys (by omega) (k + 1) (by omega), Option.bind_some, cAll_eq _ hlen (k + 1) (by omega), cp_awake, if_true, decide_eq_true_eq]
  by_cases h : ∀ y ∈ ys, Valid y
  · have ha := pall_put ys 17 [] (by omega) (by simpa using hy) h
    have hl := cp_l1 ys (by omega) ys.length k 0 (by omega) (by omega) (by omega)
    rw [Int.natCast_zero] at hl
    rw [if_pos h, pput_valid h, ha, decide_eq_true h]
    simp only [List.nil_append, if_true, bne_self_eq_false, crosswaylaw05_CausePuts.j3, Bool.false_eq_true, if_false]
    exact hl
  · rw [if_neg h, decide_eq_false h]
    simp only [crosswaylaw05_CausePuts.j3, Bool.false_eq_true, if_false]
    exact cp_l1f _ _ k (by omega)
theorem all_snoc (ys : List It) (y : It) : decide (∀ z ∈ ys ++ [y], Valid z) = (decide (∀ z ∈ ys, Valid z) && decide (Valid y)) := by
  rw [Bool.eq_iff_iff, Bool.and_eq_true, decide_eq_true_eq, decide_eq_true_eq, decide_eq_true_eq]
  constructor
  · intro h
    exact ⟨fun z hz => h z (List.mem_append_left _ hz), h y (by simp)⟩
  · rintro ⟨h1, h2⟩ z hz
    rcases List.mem_append.1 hz with hz | hz
    · exact h1 z hz
    · rw [List.mem_singleton.1 hz]
      exact h2
theorem cp_loop (x0 : List S25) : ∀ (d k i : Nat) (ys : List It), 16 - i = d → i ≤ 16 → 3 * d + 1210 ≤ k → ys.length = i →
    crosswaylaw05_CausePuts.l0 k x0 (ys.map p25) (mk (ys.flatMap pput)) (decide (∀ y ∈ ys, Valid y)) (i : Int) = some true := by
  intro d
  induction d with
  | zero =>
    intro k i ys hd hi hk hy
    obtain ⟨k, rfl⟩ : ∃ m, k = m + 1 := ⟨k - 1, by omega⟩
    simp only [crosswaylaw05_CausePuts.l0]
    rw [decide_eq_false (show ¬ ((i : Int) < 16) by omega), cp_end x0 _ ys (by omega) k (by omega)]
    simp
  | succ d ih =>
    intro k i ys hd hi hk hy
    obtain ⟨k, rfl⟩ : ∃ m, k = m + 3 := ⟨k - 3, by omega⟩
    simp only [crosswaylaw05_CausePuts.l0]
    by_cases hlt : (i : Int) < (x0.length : Int)
    · rw [if_pos hlt, decide_eq_true (show (i : Int) < 16 by omega)]
      simp only [crosswaylaw05_CausePuts.j1, if_true]
      rw [if_pos (by omega), if_pos hlt]
      obtain ⟨v, hv⟩ : ∃ v, (rd_T25 x0 (i : Int)).f1 = mk v := ⟨_, eq_mk _⟩
      have em : mn (v.length : Int) 1100 = ((min v.length 1100 : Nat) : Int) := mn_nat v.length 1100
      rw [hv, size_mk, em, if_pos (by omega), if_pos (by omega), if_pos (by rw [List.length_map]; omega), extract_mk, Int.toNat_natCast, List.drop_zero]
      generalize (rd_T25 x0 (i : Int)).f0 = t
      generalize v.take (min v.length 1100) = w
      have hpl := pput_length (t, w)
      have hlen : (ys.flatMap pput).length ≤ 1010 * ys.length := by
        have key : ∀ zs : List It, (zs.flatMap pput).length ≤ 1010 * zs.length := by
          intro zs
          induction zs with
          | nil => simp
          | cons z zs ih =>
            have := pput_length z
            rw [List.flatMap_cons, List.length_append, List.length_cons]
            omega
        exact key ys
      simp only [Option.bind_some, crosswaylaw05_ref.f, rPut_p t w (k + 1) (by omega), size_mk, rMay_eq, mk_append, decide_eq_true_eq]
      rw [if_pos (by omega)]
      have e1 : (ys ++ [(t, w)]).map p25 = ys.map p25 ++ [(⟨t, mk w⟩ : S25)] := by simp [p25]
      have e2 : (ys ++ [(t, w)]).flatMap pput = ys.flatMap pput ++ pput (t, w) := by simp
      have next : crosswaylaw05_CausePuts.j2 (k + 1) x0 ((ys ++ [(t, w)]).map p25) (mk ((ys ++ [(t, w)]).flatMap pput)) (decide (∀ y ∈ ys ++ [(t, w)], Valid y)) (i : Int) t (mk w) = some true := by
        simp only [crosswaylaw05_CausePuts.j2, cMay_eq, Option.bind_some, crosswaylaw05_ref.f, rMay_eq, bne_self_eq_false, Bool.false_eq_true, if_false, cPut_p, rPut_p t w k (by omega), if_true]
        rw [w64 (by omega) (by omega)]
        exact ih k (i + 1) (ys ++ [(t, w)]) (by omega) (by omega) (by omega) (by rw [List.length_append, List.length_singleton, hy])
      rw [all_snoc, e1, e2] at next
      by_cases h : ∀ y ∈ ys, Valid y
      · rw [decide_eq_true h, Bool.true_and] at next
        rw [if_pos h]
        exact next
      · rw [decide_eq_false h, Bool.false_and] at next
        rw [if_neg h]
        exact next
    · rw [if_neg hlt]
      exact cp_end x0 _ ys (by omega) (k + 2) (by omega)
theorem CausePuts : GoodCausePuts.Pure := by
  intro l hg
  obtain ⟨K, hK⟩ : ∃ K : Nat, K = 2000 := ⟨_, rfl⟩
  refine ⟨K, ?_⟩
  unfold crosswaylaw05_CausePuts.f
  have h := cp_loop l 16 K 0 [] (by omega) (by omega) (by omega) rfl
  rw [Int.natCast_zero] at h
  have e : decide (∀ y ∈ ([] : List It), Valid y) = true := by simp
  rw [e] at h
  exact h
end Go.Proofs.Ytmdncojhnbbafaa.Pure
