/- Gp7: walks through functions of the program, by the calculus; written by a program of this workplace. -/
import Derived.Test.YtmepflkodjdgdaaGp6
import Derived.Test.YtmepflkodjdgdaaVm6
namespace Go.Proofs.Ytmepflkodjdgdaa.Vt
open Go Go.Proofs Go.Proofs.YtmepflkodjdgdaaV
set_option maxRecDepth 100000
set_option linter.unusedVariables false
set_option linter.unusedSimpArgs false
theorem FI_0 : FI [] [] := ⟨trivial, fun x _ => ⟨fun h => absurd h mem_nil, fun h => by cases h⟩, fun e he => by cases he⟩
theorem diff_far {a b : BitVec 32} (h : ((a - b).toNat : Int) ≤ 2147483648) : diffW a b = ((a - b).toNat : Int) := by
  unfold diffW
  refine if_neg (fun hl => ?_)
  unfold lessW at hl
  obtain ⟨h1, h2⟩ := hl
  have e1 : ((b - a) + (a - b)).toNat = 0 := by rw [show (b - a) + (a - b) = 0#32 from by
    apply BitVec.eq_of_toNat_eq
    simp [BitVec.toNat_add, BitVec.toNat_sub]; omega]; rfl
  rw [BitVec.toNat_add] at e1
  have h3 : (a - b).toNat ≠ 0 := fun h0 => h1 (by
    have h4 := BitVec.toNat_sub a b
    have h5 := a.isLt
    have h6 := b.isLt
    rw [h0] at h4
    omega)
  have h6 := (b - a).isLt
  have h7 := (a - b).isLt
  omega
theorem diff_neg {a b : BitVec 32} (h : 2147483648 < ((a - b).toNat : Int)) : diffW a b ≤ 0 := by
  unfold diffW
  have e1 : ((b - a) + (a - b)).toNat = 0 := by rw [show (b - a) + (a - b) = 0#32 from by
    apply BitVec.eq_of_toNat_eq
    simp [BitVec.toNat_add, BitVec.toNat_sub]; omega]; rfl
  rw [BitVec.toNat_add] at e1
  have h6 := (b - a).isLt
  have h7 := (a - b).isLt
  rw [if_pos]
  · omega
  · unfold lessW
    refine ⟨fun h8 => ?_, by omega⟩
    have h9 : a = b := BitVec.eq_of_toNat_eq (by omega)
    subst h9
    simp at h
theorem FI_look {ps : List Gap} {fs : List Inn} {c1 c2 tsn : BitVec 32} (h12 : c1 = c2) (h : FI ps fs) : lookZ c1 ps tsn = lookR c2 fs tsn := by
  subst h12
  unfold lookZ lookR
  by_cases h1 : ((tsn - c1).toNat : Int) ≤ 2147483648
  · have hd := diff_far h1
    rw [hd]
    by_cases h2 : ((tsn - c1).toNat : Int) = 0
    · rw [if_pos (by omega), if_pos h2]
    · rw [if_neg (show ¬ ((tsn - c1).toNat : Int) ≤ 0 by omega), if_neg h2]
      have hm : ps.any (inGb ((tsn - c1).toNat : Int)) = true ↔ inF ((tsn - c1).toNat : Int) fs = true := h.2.1 _ (by omega)
      by_cases h3 : inF ((tsn - c1).toNat : Int) fs = true
      · have := h.le h3
        rw [if_pos (hm.2 h3), if_neg (show ¬ 2147483648 < ((tsn - c1).toNat : Int) by omega), if_neg (show ¬ 1000 < ((tsn - c1).toNat : Int) by omega), if_pos h3]
      · rw [if_neg (fun hh => h3 (hm.1 hh)), if_neg (show ¬ 2147483648 < ((tsn - c1).toNat : Int) by omega), if_neg h3]
  · rw [if_pos (diff_neg (by omega)), if_neg (show ¬ ((tsn - c1).toNat : Int) = 0 by omega), if_pos (show 2147483648 < ((tsn - c1).toNat : Int) by omega)]
theorem FI_bnd {ps : List Gap} {fs : List Inn} (h : FI ps fs) : ps.length ≤ 600 ∧ okG ps := by
  have hB : ∀ x, mem x ps → x ≤ 1000 := fun x hx => by
    have h1 := mem_lo h.1 hx
    exact h.le ((h.2.1 x (by omega)).1 hx)
  have hb := bnd_of h.1 hB
  refine ⟨?_, fun p hp => by have := hb p hp; omega⟩
  rcases canon_len h.1 (fun p hp => (hb p hp).2.2) with g | g <;> omega
theorem FI_nil {ps : List Gap} {fs : List Inn} {a b : Nat} (h : FI ps fs) (ha : ps.length = a) (hb : fs.length = b) : a = 0 ↔ b = 0 := by
  subst ha; subst hb
  rw [List.length_eq_zero_iff, List.length_eq_zero_iff]
  constructor
  · intro e
    subst e
    cases fs with
    | nil => rfl
    | cons f fs =>
      have h1 := h.2.2 f (List.mem_cons_self ..)
      exact absurd ((h.2.1 f.z h1.1).2 (inF_mem.2 ⟨f, List.mem_cons_self .., rfl⟩)) mem_nil
  · intro e
    subst e
    cases ps with
    | nil => rfl
    | cons p ps =>
      have h1 := canon_all h.1 p (List.mem_cons_self ..)
      have h2 := (mem_of h.1 (List.mem_cons_self ..)).1
      have h3 := (h.2.1 p.fr (by omega)).1 h2
      cases h3
theorem FI_add {ps : List Gap} {fs : List Inn} {ds1 ds2 : List Wx} {c1 c2 tsn : BitVec 32} {k : Nat} (h12 : c1 = c2) (hdd : ds1 = ds2) (h : FI ps fs) (hk : kok c2 fs tsn k) : (addS c1 ps ds1 tsn).1 = c2 + BitVec.ofNat 32 k ∧ FI (addS c1 ps ds1 tsn).2.1 (iterF k (fsA c2 fs tsn)) ∧ (addS c1 ps ds1 tsn).2.2 = dupA c2 fs ds2 tsn := by
  have hl := FI_look (tsn := tsn) h12 h
  subst h12
  subst hdd
  unfold addS dupA
  rw [hl]
  by_cases h2 : lookR c1 fs tsn = 2
  · rw [if_pos h2, if_pos h2]
    have hn1 : ¬ lookR c1 fs tsn = 1 := by omega
    unfold kok at hk
    rw [if_neg hn1] at hk
    subst hk
    unfold fsA
    rw [if_neg hn1]
    exact ⟨by simp, h, rfl⟩
  · rw [if_neg h2, if_neg h2]
    by_cases h1 : lookR c1 fs tsn = 1
    · rw [if_pos h1]
      have hL := look_1 (hl.trans h1)
      have hd := look_diff h1
      have hdf : diffW tsn c1 = ((tsn - c1).toNat : Int) := diff_far (by omega)
      rw [hdf] at hL ⊢
      have hA : fsA c1 fs tsn = fs ++ [Inn.mk (((tsn - c1).toNat : Nat) : Int)] := if_pos h1
      unfold kok at hk
      rw [if_pos h1] at hk
      rw [hA] at hk ⊢
      obtain ⟨p1, p2⟩ := put_law (canon_mono (show (1 : Int) ≤ 2 by omega) h.1) hL.1 hL.2.2
      obtain ⟨b, s1, s2, s3, s4, s5⟩ := set_law (cum := c1) p1
      have hfs : ∀ x : Int, 1 ≤ x → (mem x (putL ps ((tsn - c1).toNat : Int)) ↔ inF x (fs ++ [Inn.mk (((tsn - c1).toNat : Nat) : Int)]) = true) := by
        intro x hx
        rw [p2 x, h.2.1 x hx]
        unfold inF
        rw [List.any_append, Bool.or_eq_true, List.any_cons, List.any_nil, Bool.or_false, decide_eq_true_eq]
        exact ⟨fun hh => hh.elim (fun e => .inr e.symm) .inl, fun hh => hh.elim .inr (fun e => .inl e.symm)⟩
      have hbn := far_bnd (cum := c1) (tsn := tsn) h.2.2 h1
      have hb : b ≤ 1000 := by
        rcases Nat.eq_zero_or_pos b with g | g
        · omega
        · obtain ⟨e, g1, g2⟩ := inF_mem.1 ((hfs b (by omega)).1 (s3 b (by omega) (Int.le_refl _)))
          have := (hbn e g1).2
          omega
      have hkb : k = b := by
        rcases Nat.lt_trichotomy k b with g | g | g
        · exfalso
          rcases hk.2 with g2 | g2
          · omega
          · exact g2 ((iter_mem (by omega)).2 ((hfs _ (by omega)).1 (s3 _ (by omega) (by omega))))
        · exact g
        · exfalso
          have g2 := (iter_mem (k := b) (x := 1) (by omega)).1 (hk.1 b g)
          exact s4 (by rw [Int.add_comm]; exact (hfs _ (by omega)).2 g2)
      subst hkb
      refine ⟨s1, ⟨s2, fun x hx => ?_, iter_bnd hbn⟩, rfl⟩
      rw [s5 x hx, iter_mem hx]
      exact hfs _ (by omega)
    · rw [if_neg h1]
      unfold kok at hk
      rw [if_neg h1] at hk
      subst hk
      unfold fsA
      rw [if_neg h1]
      exact ⟨by simp, h, rfl⟩
theorem tk_len' {ps : List Gap} {m : Nat} (h : ps.length = m) : (ps.take (min m 16)).length = min m 16 := by rw [List.length_take]; omega
theorem tk_eq {ps : List Gap} {m : Nat} : (ps.take m).take m = ps.take m := by rw [List.take_take, Nat.min_self]
end Go.Proofs.Ytmepflkodjdgdaa.Vt
