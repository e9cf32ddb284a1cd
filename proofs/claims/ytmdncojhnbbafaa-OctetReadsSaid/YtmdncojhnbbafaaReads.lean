/- A reader of the program and one of the document, step by step: the same, but that behind an error the document's has nothing left. -/
import Derived.Test.YtmdncojhnbbafaaOctet
import Derived.Test.YtmdncojhnbbafaaPAllx21
import Derived.Test.YtmdncojhnbbafaaPAllx23
import Derived.Test.YtmdncojhnbbafaaPAllx17
import Derived.Test.YtmdncojhnbbafaaPAllx18
import Derived.Test.YtmdncojhnbbafaaPAllx19
import Derived.Test.YtmdncojhnbbafaaPAllx22
import Derived.Test.YtmdncojhnbbafaaPAllx24
namespace Go.Proofs.Ytmdncojhnbbafaa.Rd
open Go Go.RowKit Go.Proofs.YtmdncojhnbbafaaW.PrintWords Go.Proofs.Ytmdncojhnbbafaa.Bt Go.Proofs.Ytmdncojhnbbafaa.PAll Go.Proofs.Ytmdncojhnbbafaa.Oc
set_option linter.unusedVariables false
set_option linter.unusedSimpArgs false
/-- What the document's reader has left. -/
def rf (l : List UInt8) (e : Int) : ByteArray := mk (if e = 0 then l else [])
theorem rf_ok (l : List UInt8) : rf l 0 = mk l := rfl
theorem rf_bad (l : List UInt8) {e : Int} (h : e ≠ 0) : rf l e = mk [] := by unfold rf; rw [if_neg h]
theorem rf_size (l : List UInt8) (e : Int) : ((rf l e).size : Int) = if e = 0 then (l.length : Int) else 0 := by
  unfold rf
  rw [size_mk]
  split <;> rfl
theorem rFail (l : List UInt8) (e x : Int) (hx : x ≠ 0) : crosswayref03_R_Fail.f (rf l e) e x = some (rf l (if e = 0 then x else e), if e = 0 then x else e) := by
  unfold crosswayref03_R_Fail.f
  by_cases h : e = 0
  · subst h
    rw [if_pos rfl, if_pos rfl, rf_bad l hx]
    rfl
  · rw [if_neg h, if_neg h]
theorem rTake (l : List UInt8) (e n : Int) : crosswayref03_R_Take.f (rf l e) e n = some (rf (tk l e n).2.1 (tk l e n).2.2, (tk l e n).2.2, mk (tk l e n).1) := by
  unfold crosswayref03_R_Take.f
  by_cases he : e = 0
  · subst he
    rw [if_pos rfl, rf_ok, size_mk]
    have hf : crosswayref03_R_Fail.f (mk l) 0 2 = some (mk [], 2) := rFail l 0 2 (by omega)
    by_cases h1 : n < 0
    · rw [if_pos h1, hf, tk_bad (by omega)]
      rfl
    · rw [if_neg h1]
      by_cases h2 : n > (l.length : Int)
      · rw [if_pos h2, hf, tk_bad (by omega)]
        rfl
      · rw [if_neg h2, if_pos (by omega), if_pos (by omega), tk_ok (by omega) (by omega), extract_mk, extract_mk]
        simp [rf]
  · rw [if_neg he, tk_bad (by omega)]
    simp only [if_neg he]
    rfl
theorem num_l0 (l : List UInt8) (hl : l.length ≤ 8) (a : ByteArray) (b : Int) : ∀ (d k i : Nat), l.length - i = d → i ≤ l.length → d < k →
    crosswayref03_R_Num.l0 k (mk l) (num (l.take i)) (i : Int) a b = some (a, b, num l) := by
  intro d
  induction d with
  | zero =>
    intro k i hd hi hk
    obtain ⟨k, rfl⟩ : ∃ m, k = m + 1 := ⟨k - 1, by omega⟩
    simp only [crosswayref03_R_Num.l0]
    rw [size_mk, if_neg (by omega), List.take_of_length_le (by omega)]
  | succ d ih =>
    intro k i hd hi hk
    obtain ⟨k, rfl⟩ : ∃ m, k = m + 1 := ⟨k - 1, by omega⟩
    have hlt : i < l.length := by omega
    simp only [crosswayref03_R_Num.l0]
    rw [size_mk, if_pos (by omega), if_pos (by omega), bt_mk]
    have hb := num_bound (l.take i)
    have hle : (256 : Int) ^ (l.take i).length ≤ 256 ^ 7 := pow_le (by rw [List.length_take]; omega)
    have h7 : (256 : Int) ^ 7 = 72057594037927936 := by decide
    have hg : (l.getD (i : Int).toNat 0) = l[i] := by simp [List.getD_eq_getElem?_getD, hlt]
    have hby := (l[i]).toNat_lt
    rw [hg, wu64, wu64, wu64, Int.emod_eq_of_lt (show 0 ≤ num (l.take i) * 256 by omega) (by omega), Int.emod_eq_of_lt (show (0 : Int) ≤ (l[i].toNat : Int) by omega) (by omega), Int.emod_eq_of_lt (by omega) (by omega), ← num_snoc, w64 (by omega) (by omega)]
    have e : l.take i ++ [l[i]] = l.take (i + 1) := by simp
    rw [e]
    exact ih k (i + 1) (by omega) (by omega) (by omega)
theorem rNum (l : List UInt8) (e n : Int) (k : Nat) (hn : n ≤ 8) (hk : 9 ≤ k) : crosswayref03_R_Num.f k (rf l e) e n = some (rf (tk l e n).2.1 (tk l e n).2.2, (tk l e n).2.2, num (tk l e n).1) := by
  unfold crosswayref03_R_Num.f
  rw [rTake]
  simp only [Option.bind_some]
  have hl : (tk l e n).1.length ≤ 8 := by
    unfold tk
    split
    · rw [List.length_take]; omega
    · simp
  have := num_l0 (tk l e n).1 hl (rf (tk l e n).2.1 (tk l e n).2.2) (tk l e n).2.2 (tk l e n).1.length k 0 (by omega) (by omega) (by omega)
  simpa [num] using this
/-- Noughts alone. -/
def zr (s : List UInt8) : Bool := s.all (· == 0)
theorem zr_iff (s : List UInt8) : zr s = true ↔ s = List.replicate s.length 0 := by
  unfold zr
  rw [List.all_eq_true, List.eq_replicate_iff]
  simp
/-- Behind what fills up n bytes. -/
def fl (l : List UInt8) (n : Nat) : List UInt8 × Int := if zr (l.take (fills n)) = true then (l.drop (fills n), 0) else (l.drop (fills n), 4)
def fls (l : List UInt8) (e : Int) (n : Nat) : List UInt8 × Int := if e = 0 then fl l n else (l, e)
theorem take_min (l : List UInt8) (j : Nat) : l.take (min j l.length) = l.take j := by
  rcases Nat.le_total j l.length with h | h
  · rw [Nat.min_eq_left h]
  · rw [Nat.min_eq_right h, List.take_of_length_le (Nat.le_refl _), List.take_of_length_le h]
theorem drop_min (l : List UInt8) (j : Nat) : l.drop (min j l.length) = l.drop j := by
  rcases Nat.le_total j l.length with h | h
  · rw [Nat.min_eq_left h]
  · rw [Nat.min_eq_right h, List.drop_of_length_le (Nat.le_refl _), List.drop_of_length_le h]
theorem Fill_eq (l : List UInt8) (e : Int) (n : Nat) (hn : n < 4611686018427387904) : octet_Reader_Fill.f (mk l) e (n : Int) = some (mk (fls l e n).1, (fls l e n).2) := by
  unfold octet_Reader_Fill.f
  rw [Pad_eq n hn]
  simp only [Option.bind_some, Left_eq]
  have hf := fills_le n
  by_cases he : e = 0
  · subst he
    have em : mn ((fills n : Nat) : Int) (l.length : Int) = ((min (fills n) l.length : Nat) : Int) := mn_nat _ _
    rw [if_pos rfl, em, Take_eq, tk_ok (by omega) (by omega)]
    simp only [Option.bind_some, Int.toNat_natCast, take_min, drop_min, size_mk]
    have hlen : (l.take (fills n)).length ≤ 3 := by rw [List.length_take]; omega
    rw [if_pos (by omega), if_pos (by omega)]
    have ez : ((⟨#[0, 0, 0]⟩ : ByteArray).extract 0 (l.take (fills n)).length) = mk (List.replicate (l.take (fills n)).length 0) := by
      show (mk [0, 0, 0]).extract 0 _ = _
      rw [extract_mk, take_zeros _ hlen]
      rfl
    rw [ez, toList_mk, toList_mk]
    have hz := zr_iff (l.take (fills n))
    unfold fls fl
    rw [if_pos rfl]
    by_cases h : zr (l.take (fills n)) = true
    · rw [if_pos (hz.1 h), if_pos h]
    · rw [if_neg (fun h2 => h (hz.2 h2)), if_neg h, Fail_eq]
      rfl
  · have em : mn ((fills n : Nat) : Int) 0 = ((min (fills n) 0 : Nat) : Int) := mn_nat _ 0
    rw [if_neg he, em, Take_eq, tk_bad (by omega)]
    simp only [Option.bind_some, size_mk, if_neg he]
    unfold fls
    rw [if_neg he, if_pos (by simp), if_pos (by simp)]
    have ez : ((⟨#[0, 0, 0]⟩ : ByteArray).extract 0 ([] : List UInt8).length) = mk [] := by
      show (mk [0, 0, 0]).extract 0 _ = _
      rw [extract_mk]
      rfl
    rw [ez, if_pos rfl]
theorem fill_l0 (s q : List UInt8) (hs : s.length ≤ 3) : ∀ (d k i : Nat), s.length - i = d → i ≤ s.length → d < k →
    crosswayref03_R_Fill.l0 k (mk s) (i : Int) (mk q) 0 = some (rf q (if zr (s.drop i) = true then 0 else 4), if zr (s.drop i) = true then 0 else 4) := by
  intro d
  induction d with
  | zero =>
    intro k i hd hi hk
    obtain ⟨k, rfl⟩ : ∃ m, k = m + 1 := ⟨k - 1, by omega⟩
    simp only [crosswayref03_R_Fill.l0]
    rw [size_mk, if_neg (by omega), List.drop_of_length_le (by omega)]
    rfl
  | succ d ih =>
    intro k i hd hi hk
    obtain ⟨k, rfl⟩ : ∃ m, k = m + 1 := ⟨k - 1, by omega⟩
    have hlt : i < s.length := by omega
    simp only [crosswayref03_R_Fill.l0]
    rw [size_mk, if_pos (by omega), if_pos (by omega), bt_mk, w64 (by omega) (by omega)]
    have hg : (s.getD (i : Int).toNat 0) = s[i] := by simp [List.getD_eq_getElem?_getD, hlt]
    have hd2 : s.drop i = s[i] :: s.drop (i + 1) := List.drop_eq_getElem_cons hlt
    have hz : zr (s.drop i) = ((s[i] == 0) && zr (s.drop (i + 1))) := by rw [hd2]; rfl
    rw [hg, hz]
    by_cases h : s[i] = 0
    · rw [if_pos (by rw [h]; rfl), h]
      have := ih k (i + 1) (by omega) (by omega) (by omega)
      simpa using this
    · have hne : ¬ ((s[i].toNat : Int) = 0) := by
        intro h0
        apply h
        apply UInt8.toNat.inj
        have : s[i].toNat = 0 := by omega
        simpa using this
      have hb : (s[i] == 0) = false := by simpa using h
      rw [if_neg hne, hb]
      have hf : crosswayref03_R_Fail.f (mk q) 0 4 = some (mk [], 4) := rFail q 0 4 (by omega)
      rw [hf]
      rfl
theorem ref_pad (n : Nat) (hn : n < 4611686018427387904) : Int.tmod (wrap64 (4 - (Int.tmod (n : Int) 4))) 4 = ((fills n : Nat) : Int) := by
  have e1 : Int.tmod (n : Int) 4 = (n : Int) % 4 := tmod_pos (by omega)
  rw [e1, w64 (by omega) (by omega), tmod_pos (by omega)]
  unfold fills
  omega
theorem rFill (l : List UInt8) (e : Int) (n : Nat) (k : Nat) (hn : n < 4611686018427387904) (hk : 6 ≤ k) : crosswayref03_R_Fill.f k (rf l e) e (n : Int) = some (rf (fls l e n).1 (fls l e n).2, (fls l e n).2) := by
  obtain ⟨k, rfl⟩ : ∃ m, k = m + 1 := ⟨k - 1, by omega⟩
  have hf := fills_le n
  unfold crosswayref03_R_Fill.f
  rw [ref_pad n hn]
  by_cases he : e = 0
  · subst he
    have hj : ∀ j : Nat, j = min (fills n) l.length → crosswayref03_R_Fill.j0 (k + 1) (j : Int) (rf l 0) 0 = some (rf (fls l 0 n).1 (fls l 0 n).2, (fls l 0 n).2) := by
      intro j hj
      simp only [crosswayref03_R_Fill.j0]
      rw [rTake, tk_ok (by omega) (by omega)]
      simp only [Option.bind_some, Int.toNat_natCast]
      rw [rf_ok, hj, take_min, drop_min]
      have := fill_l0 (l.take (fills n)) (l.drop (fills n)) (by rw [List.length_take]; omega) (l.take (fills n)).length k 0 (by omega) (by omega) (by rw [List.length_take]; omega)
      rw [List.drop_zero] at this
      have this2 : crosswayref03_R_Fill.l0 k (mk (l.take (fills n))) 0 (mk (l.drop (fills n))) 0 = _ := this
      rw [this2]
      unfold fls fl
      rw [if_pos rfl]
      by_cases h : zr (l.take (fills n)) = true
      · rw [if_pos h, if_pos h]
      · rw [if_neg h, if_neg h]
    rw [rf_ok, size_mk]
    by_cases h : ((fills n : Nat) : Int) > (l.length : Int)
    · rw [if_pos h]
      exact hj l.length (by omega)
    · rw [if_neg h]
      exact hj (fills n) (by omega)
  · have hj : ∀ j : Int, crosswayref03_R_Fill.j0 (k + 1) j (rf l e) e = some (rf (fls l e n).1 (fls l e n).2, (fls l e n).2) := by
      intro j
      obtain ⟨k, rfl⟩ : ∃ m, k = m + 1 := ⟨k - 1, by omega⟩
      simp only [crosswayref03_R_Fill.j0]
      rw [rTake, tk_bad (by omega)]
      simp only [Option.bind_some, if_neg he, crosswayref03_R_Fill.l0, size_mk]
      unfold fls
      rw [if_neg he]
      simp
    split <;> exact hj _
theorem End_eq (l : List UInt8) (e : Int) (k : Nat) (hk : 1 ≤ k) : ∃ s e', octet_Reader_End.f k (mk l) e = some ((if e = 0 ∧ l ≠ [] then 3 else e), s, e') := by
  obtain ⟨k, rfl⟩ : ∃ m, k = m + 1 := ⟨k - 1, by omega⟩
  unfold octet_Reader_End.f
  simp only [Err_eq, Option.bind_some, octet_Reader_End.j0, size_mk, Fail_eq]
  by_cases he : e = 0
  · subst he
    rw [if_pos rfl]
    cases l with
    | nil => exact ⟨mk [], 0, by simp⟩
    | cons a l =>
      have : ((a :: l).length : Int) > 0 := by simp
      exact ⟨mk (a :: l), 3, by simp [this]⟩
  · rw [if_neg he]
    exact ⟨mk l, e, by simp [he]⟩
theorem rEnd (l : List UInt8) (e : Int) : crosswayref03_R_End.f (rf l e) e = some (if e = 0 ∧ l ≠ [] then 3 else e) := by
  unfold crosswayref03_R_End.f
  by_cases he : e = 0
  · subst he
    rw [if_pos rfl, rf_ok, size_mk]
    cases l with
    | nil => simp
    | cons a l =>
      have : ((a :: l).length : Int) > 0 := by simp
      simp [this]
  · rw [if_neg he]
    simp [he]
theorem Rest_eq (l : List UInt8) (e : Int) : octet_Reader_Rest.f (mk l) e = some (mk (if e = 0 then l else []), mk (if e = 0 then [] else l), e) := by
  unfold octet_Reader_Rest.f
  rw [Left_eq]
  simp only [Option.bind_some, Take_eq]
  by_cases he : e = 0
  · subst he
    rw [if_pos rfl, tk_ok (by omega) (by omega)]
    simp
  · rw [if_neg he, tk_bad (by omega)]
    simp [he]
end Go.Proofs.Ytmdncojhnbbafaa.Rd
