/- Plain lemmas on strings as lists of bytes, for the words of the print; no program in sight. -/
import Derived.Test.YtmdncojhnbbafaaWWords
import Derived.Laws.BitsLemmas
namespace Go.Proofs.Ytmdncojhnbbafaa.Bt
open Go Go.RowKit Go.Proofs.YtmdncojhnbbafaaW.PrintWords
set_option linter.unusedVariables false
set_option linter.unusedSimpArgs false

/-- From the end. -/
theorem snoc_ind {α : Type} {P : List α → Prop} (h0 : P []) (h1 : ∀ l a, P l → P (l ++ [a])) (l : List α) : P l := by
  have key : ∀ (n : Nat) (l : List α), l.length = n → P l := by
    intro n
    induction n with
    | zero => intro l h; rw [List.length_eq_zero_iff.1 h]; exact h0
    | succ n ih =>
      intro l h
      have hne : l ≠ [] := by rintro rfl; simp at h
      rw [← List.dropLast_concat_getLast hne]
      exact h1 _ _ (ih _ (by rw [List.length_dropLast]; omega))
  exact key _ l rfl
/-- A string out of its bytes. -/
def mk (l : List UInt8) : ByteArray := ⟨l.toArray⟩
theorem mk_data (l : List UInt8) : (mk l).data.toList = l := by simp [mk]
theorem eq_mk (s : ByteArray) : s = mk s.data.toList := by cases s; simp [mk]
theorem mk_inj {a b : List UInt8} (h : mk a = mk b) : a = b := by
  have := congrArg (fun s : ByteArray => s.data.toList) h
  simpa [mk_data] using this
theorem size_mk (l : List UInt8) : (mk l).size = l.length := by
  show (mk l).data.size = _
  simp [mk]
theorem mk_nil : (⟨#[]⟩ : ByteArray) = mk [] := rfl
theorem mk_append (a b : List UInt8) : mk a ++ mk b = mk (a ++ b) := by
  apply ByteArray.ext
  rw [ByteArray.data_append]
  simp [mk]
theorem extract_mk (l : List UInt8) (i j : Nat) : (mk l).extract i j = mk ((l.take j).drop i) := by
  apply ByteArray.ext
  rw [ByteArray.data_extract]
  apply Array.ext'
  simp [mk, List.extract_eq_take_drop, List.drop_take]
theorem toList_loop (s : ByteArray) : ∀ (n i : Nat) (r : List UInt8), s.size - i = n → ByteArray.toList.loop s i r = r.reverse ++ s.data.toList.drop i := by
  have hsz : s.data.toList.length = s.size := by rw [Array.length_toList]; rfl
  intro n
  induction n with
  | zero =>
    intro i r h
    unfold ByteArray.toList.loop
    rw [if_neg (by omega), List.drop_of_length_le (by omega)]
    simp
  | succ n ih =>
    intro i r h
    unfold ByteArray.toList.loop
    rw [if_pos (by omega), ih (i + 1) _ (by omega)]
    have hlt : i < s.data.toList.length := by omega
    have e : s.data.toList.drop i = s.data.toList[i] :: s.data.toList.drop (i + 1) := List.drop_eq_getElem_cons hlt
    rw [e]
    have hg : s.get! i = s.data.toList[i] := by
      have hi : i < s.data.size := by simpa using hlt
      show s.data[i]! = _
      rw [getElem!_pos s.data i hi]
      simp
    simp [hg]
theorem toList_mk (l : List UInt8) : (mk l).toList = l := by
  unfold ByteArray.toList
  rw [toList_loop (mk l) _ 0 [] rfl, mk_data]
  simp
theorem bt_mk (l : List UInt8) (i : Int) : bt (mk l) i = ((l.getD i.toNat 0).toNat : Int) := by
  unfold bt
  by_cases h : i.toNat < l.length
  · rw [dif_pos (by rw [size_mk]; exact h)]
    have e : (mk l)[i.toNat]'(by rw [size_mk]; exact h) = l[i.toNat]'h := by
      show (mk l).data[i.toNat]'_ = _
      simp [mk]
    rw [e]
    simp [List.getD_eq_getElem?_getD, h]
  · rw [dif_neg (by rw [size_mk]; exact h)]
    simp [List.getD_eq_getElem?_getD, List.getElem?_eq_none (show l.length ≤ i.toNat by omega)]
/-- A number's lowest byte. -/
def b8 (n : Int) : UInt8 := UInt8.ofNat n.toNat
theorem strOfNums_mk (xs : List Int) : strOfNums xs = mk (xs.map b8) := rfl
theorem b8_toNat {n : Int} (h0 : 0 ≤ n) (h1 : n < 256) : ((b8 n).toNat : Int) = n := by
  unfold b8
  rw [UInt8.toNat_ofNat']
  omega
theorem b8_of (b : UInt8) : b8 (b.toNat : Int) = b := by
  unfold b8
  simp
/-- A number's bytes, the highest first. -/
def be : Nat → Int → List UInt8
  | 0, _ => []
  | b + 1, n => be b (n / 256) ++ [b8 (n % 256)]
theorem be_length (b : Nat) : ∀ n, (be b n).length = b := by
  induction b with
  | zero => intro n; rfl
  | succ b ih => intro n; simp [be, ih]
/-- What bytes say, the highest first. -/
def num (l : List UInt8) : Int := l.foldl (fun n b => n * 256 + (b.toNat : Int)) 0
theorem num_snoc (l : List UInt8) (b : UInt8) : num (l ++ [b]) = num l * 256 + (b.toNat : Int) := by simp [num, List.foldl_append]
theorem num_bound (l : List UInt8) : 0 ≤ num l ∧ num l < 256 ^ l.length := by
  induction l using snoc_ind with
  | h0 => simp [num]
  | h1 l b ih =>
    have hb := b.toNat_lt
    rw [num_snoc, List.length_append, List.length_singleton, Int.pow_succ]
    omega
theorem num_be (b : Nat) : ∀ n : Int, 0 ≤ n → num (be b n) = n % 256 ^ b := by
  induction b with
  | zero =>
    intro n h
    show 0 = n % 1
    omega
  | succ b ih =>
    intro n h
    have h2 : 0 ≤ n % 256 ∧ n % 256 < 256 := by omega
    rw [be, num_snoc, ih _ (by omega), b8_toNat h2.1 h2.2]
    have hp : (256 : Int) ^ b > 0 := Int.pow_pos (by omega)
    rw [Int.pow_succ]
    generalize (256 : Int) ^ b = p at hp
    have hq := Int.mul_ediv_add_emod n 256
    have hu := Int.mul_ediv_add_emod (n / 256) p
    have hu0 := Int.emod_nonneg (n / 256) (show p ≠ 0 by omega)
    have hu1 := Int.emod_lt_of_pos (n / 256) hp
    have e0 : p * 256 * (n / 256 / p) = 256 * (p * (n / 256 / p)) := by rw [Int.mul_comm p 256, Int.mul_assoc]
    have e : n = (n / 256 % p * 256 + n % 256) + p * 256 * (n / 256 / p) := by omega
    have e2 : n % (p * 256) = (n / 256 % p * 256 + n % 256) % (p * 256) := by
      conv =>
        lhs
        rw [e]
      rw [Int.add_mul_emod_self_left]
    rw [e2]
    exact (Int.emod_eq_of_lt (by omega) (by omega)).symm
theorem be_num (l : List UInt8) : be l.length (num l) = l := by
  induction l using snoc_ind with
  | h0 => rfl
  | h1 l b ih =>
    have hb := b.toNat_lt
    rw [List.length_append, List.length_singleton, be, num_snoc]
    have e1 : (num l * 256 + (b.toNat : Int)) / 256 = num l := by omega
    have e2 : (num l * 256 + (b.toNat : Int)) % 256 = (b.toNat : Int) := by omega
    rw [e1, e2, ih, b8_of]
end Go.Proofs.Ytmdncojhnbbafaa.Bt
