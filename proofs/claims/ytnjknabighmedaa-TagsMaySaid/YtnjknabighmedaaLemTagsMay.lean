/- Plain lemmas over the printed functions, for TagsMay. -/
import Derived.Test.YtnjknabighmedaaWWords
import Derived.Laws.BitsLemmas
namespace Go.Proofs.Ytnjknabighmedaa.Bt
open Go Go.RowKit Go.Proofs.YtnjknabighmedaaW.PrintWords
set_option linter.unusedVariables false
set_option linter.unusedSimpArgs false
/-- From the end. -/
theorem snoc_ind {α : Type} {P : List α → Prop} (h0 : P []) (h1 : ∀ l a, P l → P (l ++ [a])) (l : List α) : P l := by
  have key : ∀ (n : Nat) (l : List α), l.length = n → P l := by
    intro n
    induction n with
    | zero => intro l h; rw [List.length_eq_zero_iff.1 h]; exact h0
    | succ n ih =>
      intro l h
      have hne : l ≠ [] := by rintro rfl; simp at h
      rw [← List.dropLast_concat_getLast hne]
      exact h1 _ _ (ih _ (by rw [List.length_dropLast]; omega))
  exact key _ l rfl
/-- A string out of its bytes. -/
def mk (l : List UInt8) : ByteArray := ⟨l.toArray⟩
theorem mk_data (l : List UInt8) : (mk l).data.toList = l := by simp [mk]
theorem eq_mk (s : ByteArray) : s = mk s.data.toList := by cases s; simp [mk]
theorem mk_inj {a b : List UInt8} (h : mk a = mk b) : a = b := by
  have := congrArg (fun s : ByteArray => s.data.toList) h
  simpa [mk_data] using this
theorem size_mk (l : List UInt8) : (mk l).size = l.length := by
  show (mk l).data.size = _
  simp [mk]
theorem mk_nil : (⟨#[]⟩ : ByteArray) = mk [] := rfl
theorem mk_append (a b : List UInt8) : mk a ++ mk b = mk (a ++ b) := by
  apply ByteArray.ext
  rw [ByteArray.data_append]
  simp [mk]
theorem extract_mk (l : List UInt8) (i j : Nat) : (mk l).extract i j = mk ((l.take j).drop i) := by
  apply ByteArray.ext
  rw [ByteArray.data_extract]
  apply Array.ext'
  simp [mk, List.extract_eq_take_drop, List.drop_take]
theorem toList_loop (s : ByteArray) : ∀ (n i : Nat) (r : List UInt8), s.size - i = n → ByteArray.toList.loop s i r = r.reverse ++ s.data.toList.drop i := by
  have hsz : s.data.toList.length = s.size := by rw [Array.length_toList]; rfl
  intro n
  induction n with
  | zero =>
    intro i r h
    unfold ByteArray.toList.loop
    rw [if_neg (by omega), List.drop_of_length_le (by omega)]
    simp
  | succ n ih =>
    intro i r h
    unfold ByteArray.toList.loop
    rw [if_pos (by omega), ih (i + 1) _ (by omega)]
    have hlt : i < s.data.toList.length := by omega
    have e : s.data.toList.drop i = s.data.toList[i] :: s.data.toList.drop (i + 1) := List.drop_eq_getElem_cons hlt
    rw [e]
    have hg : s.get! i = s.data.toList[i] := by
      have hi : i < s.data.size := by simpa using hlt
      show s.data[i]! = _
      rw [getElem!_pos s.data i hi]
      simp
    simp [hg]
theorem toList_mk (l : List UInt8) : (mk l).toList = l := by
  unfold ByteArray.toList
  rw [toList_loop (mk l) _ 0 [] rfl, mk_data]
  simp
theorem bt_mk (l : List UInt8) (i : Int) : bt (mk l) i = ((l.getD i.toNat 0).toNat : Int) := by
  unfold bt
  by_cases h : i.toNat < l.length
  · rw [dif_pos (by rw [size_mk]; exact h)]
    have e : (mk l)[i.toNat]'(by rw [size_mk]; exact h) = l[i.toNat]'h := by
      show (mk l).data[i.toNat]'_ = _
      simp [mk]
    rw [e]
    simp [List.getD_eq_getElem?_getD, h]
  · rw [dif_neg (by rw [size_mk]; exact h)]
    simp [List.getD_eq_getElem?_getD, List.getElem?_eq_none (show l.length ≤ i.toNat by omega)]
/-- A number's lowest byte. -/
def b8 (n : Int) : UInt8 := UInt8.ofNat n.toNat
theorem strOfNums_mk (xs : List Int) : strOfNums xs = mk (xs.map b8) := rfl
theorem b8_toNat {n : Int} (h0 : 0 ≤ n) (h1 : n < 256) : ((b8 n).toNat : Int) = n := by
  unfold b8
  rw [UInt8.toNat_ofNat']
  omega
theorem b8_of (b : UInt8) : b8 (b.toNat : Int) = b := by
  unfold b8
  simp
/-- A number's bytes, the highest first. -/
def be : Nat → Int → List UInt8
  | 0, _ => []
  | b + 1, n => be b (n / 256) ++ [b8 (n % 256)]
theorem be_length (b : Nat) : ∀ n, (be b n).length = b := by
  induction b with
  | zero => intro n; rfl
  | succ b ih => intro n; simp [be, ih]
/-- What bytes say, the highest first. -/
def num (l : List UInt8) : Int := l.foldl (fun n b => n * 256 + (b.toNat : Int)) 0
theorem num_snoc (l : List UInt8) (b : UInt8) : num (l ++ [b]) = num l * 256 + (b.toNat : Int) := by simp [num, List.foldl_append]
theorem num_bound (l : List UInt8) : 0 ≤ num l ∧ num l < 256 ^ l.length := by
  induction l using snoc_ind with
  | h0 => simp [num]
  | h1 l b ih =>
    have hb := b.toNat_lt
    rw [num_snoc, List.length_append, List.length_singleton, Int.pow_succ]
    omega
theorem num_be (b : Nat) : ∀ n : Int, 0 ≤ n → num (be b n) = n % 256 ^ b := by
  induction b with
  | zero =>
    intro n h
    show 0 = n % 1
    omega
  | succ b ih =>
    intro n h
    have h2 : 0 ≤ n % 256 ∧ n % 256 < 256 := by omega
    rw [be, num_snoc, ih _ (by omega), b8_toNat h2.1 h2.2]
    have hp : (256 : Int) ^ b > 0 := Int.pow_pos (by omega)
    rw [Int.pow_succ]
    generalize (256 : Int) ^ b = p at hp
    have hq := Int.mul_ediv_add_emod n 256
    have hu := Int.mul_ediv_add_emod (n / 256) p
    have hu0 := Int.emod_nonneg (n / 256) (show p ≠ 0 by omega)
    have hu1 := Int.emod_lt_of_pos (n / 256) hp
    have e0 : p * 256 * (n / 256 / p) = 256 * (p * (n / 256 / p)) := by rw [Int.mul_comm p 256, Int.mul_assoc]
    have e : n = (n / 256 % p * 256 + n % 256) + p * 256 * (n / 256 / p) := by omega
    have e2 : n % (p * 256) = (n / 256 % p * 256 + n % 256) % (p * 256) := by
      conv =>
        lhs
        rw [e]
      rw [Int.add_mul_emod_self_left]
    rw [e2]
    exact (Int.emod_eq_of_lt (by omega) (by omega)).symm
theorem be_num (l : List UInt8) : be l.length (num l) = l := by
  induction l using snoc_ind with
  | h0 => rfl
  | h1 l b ih =>
    have hb := b.toNat_lt
    rw [List.length_append, List.length_singleton, be, num_snoc]
    have e1 : (num l * 256 + (b.toNat : Int)) / 256 = num l := by omega
    have e2 : (num l * 256 + (b.toNat : Int)) % 256 = (b.toNat : Int) := by omega
    rw [e1, e2, ih, b8_of]
end Go.Proofs.Ytnjknabighmedaa.Bt
namespace Go.Proofs.Ytnjknabighmedaa.Oc
open Go Go.RowKit Go.Proofs.YtnjknabighmedaaW.PrintWords Go.Proofs.Ytnjknabighmedaa.Bt
set_option linter.unusedVariables false
set_option linter.unusedSimpArgs false
theorem w64 {n : Int} (h0 : -9223372036854775808 ≤ n) (h1 : n ≤ 9223372036854775807) : wrap64 n = n := by unfold wrap64; omega
theorem wu64 (n : Int) : IntKind.u64.wrap n = n % 18446744073709551616 := by simp [IntKind.wrap, IntKind.bits, IntKind.signed]
theorem tdiv_pos {n m : Int} (h : 0 ≤ n) : Int.tdiv n m = n / m := Int.tdiv_eq_ediv_of_nonneg h
theorem tmod_pos {n m : Int} (h : 0 ≤ n) : Int.tmod n m = n % m := Int.tmod_eq_emod_of_nonneg h
theorem and_nat (k : IntKind) (x : Int) (m j : Nat) (hm : m = 2 ^ j - 1) (hj : j < k.bits) : ((BitVec.ofInt k.bits x &&& BitVec.ofInt k.bits (m : Int)).toNat : Int) = x % 2 ^ j := by
  subst hm
  have hp : 2 ^ j < 2 ^ k.bits := Nat.pow_lt_pow_right (by omega) hj
  have hp0 : 0 < 2 ^ j := Nat.two_pow_pos j
  rw [BitVec.toNat_and]
  have e1 : (BitVec.ofInt k.bits ((2 ^ j - 1 : Nat) : Int)).toNat = 2 ^ j - 1 := by
    rw [BitVec.ofInt_natCast, BitVec.toNat_ofNat]
    exact Nat.mod_eq_of_lt (by omega)
  rw [e1, Nat.and_two_pow_sub_one_eq_mod, BitVec.toNat_ofInt]
  have hz : (0 : Int) ≤ x % ((2 ^ k.bits : Nat) : Int) := Int.emod_nonneg _ (by have := Nat.two_pow_pos k.bits; omega)
  rw [Int.natCast_emod, Int.toNat_of_nonneg hz]
  have hd : ((2 ^ j : Nat) : Int) ∣ ((2 ^ k.bits : Nat) : Int) := Int.ofNat_dvd.2 (Nat.pow_dvd_pow 2 (by omega))
  rw [Int.emod_emod_of_dvd _ hd, Int.natCast_pow]
  rfl
/-- 'x & m', m one less than a power of two. -/
theorem and_i64 (x : Int) (m j : Nat) (hm : m = 2 ^ j - 1) (hj : j ≤ 62) : Go.bits .and .i64 x (m : Int) = x % 2 ^ j := by
  have h := and_nat .i64 x m j hm (by show j < 64; omega)
  unfold Go.bits
  simp only
  rw [h, IntKind.wrap_i64]
  have h0 : (0 : Int) < 2 ^ j := Int.pow_pos (by omega)
  have h1 : (2 : Int) ^ j ≤ 2 ^ 62 := by
    have := Nat.pow_le_pow_right (show 2 > 0 by omega) hj
    exact_mod_cast this
  have h2 : (2 : Int) ^ 62 = 4611686018427387904 := by decide
  have h3 := Int.emod_nonneg x (show (2 : Int) ^ j ≠ 0 by omega)
  have h4 := Int.emod_lt_of_pos x h0
  omega
theorem and_u64 (x : Int) (m j : Nat) (hm : m = 2 ^ j - 1) (hj : j ≤ 63) : Go.bits .and .u64 x (m : Int) = x % 2 ^ j := by
  have h := and_nat .u64 x m j hm (by show j < 64; omega)
  unfold Go.bits
  simp only
  rw [h, wu64]
  have h0 : (0 : Int) < 2 ^ j := Int.pow_pos (by omega)
  have h1 : (2 : Int) ^ j ≤ 2 ^ 63 := by
    have := Nat.pow_le_pow_right (show 2 > 0 by omega) hj
    exact_mod_cast this
  have h2 : (2 : Int) ^ 63 = 9223372036854775808 := by decide
  have h3 := Int.emod_nonneg x (show (2 : Int) ^ j ≠ 0 by omega)
  have h4 := Int.emod_lt_of_pos x h0
  omega
theorem and_u32 (x : Int) (m j : Nat) (hm : m = 2 ^ j - 1) (hj : j ≤ 31) : Go.bits .and .u32 x (m : Int) = x % 2 ^ j := by
  have h := and_nat .u32 x m j hm (by show j < 32; omega)
  unfold Go.bits
  simp only
  rw [h, IntKind.wrap_u32]
  have h0 : (0 : Int) < 2 ^ j := Int.pow_pos (by omega)
  have h1 : (2 : Int) ^ j ≤ 2 ^ 31 := by
    have := Nat.pow_le_pow_right (show 2 > 0 by omega) hj
    exact_mod_cast this
  have h2 : (2 : Int) ^ 31 = 2147483648 := by decide
  have h3 := Int.emod_nonneg x (show (2 : Int) ^ j ≠ 0 by omega)
  have h4 := Int.emod_lt_of_pos x h0
  omega
/-- 'x*256 | b' of a byte. -/
theorem or_byte (x b : Int) (hx0 : 0 ≤ x) (hx : x < 72057594037927936) (hb0 : 0 ≤ b) (hb : b < 256) : Go.bits .or .u64 (x * 256) b = x * 256 + b := by
  obtain ⟨X, rfl⟩ := Int.eq_ofNat_of_zero_le hx0
  obtain ⟨B, rfl⟩ := Int.eq_ofNat_of_zero_le hb0
  unfold Go.bits
  simp only
  have e1 : (BitVec.ofInt IntKind.u64.bits ((X : Int) * 256)).toNat = X * 256 := by
    rw [show ((X : Int) * 256) = ((X * 256 : Nat) : Int) by omega, BitVec.ofInt_natCast, BitVec.toNat_ofNat]
    exact Nat.mod_eq_of_lt (by show _ < 2 ^ 64; omega)
  have e2 : (BitVec.ofInt IntKind.u64.bits (B : Int)).toNat = B := by
    rw [BitVec.ofInt_natCast, BitVec.toNat_ofNat]
    exact Nat.mod_eq_of_lt (by show _ < 2 ^ 64; omega)
  rw [BitVec.toNat_or, e1, e2, wu64]
  have e3 : X * 256 ||| B = X * 256 + B := by
    have := Nat.two_pow_add_eq_or_of_lt (i := 8) (b := B) (by omega) X
    rw [Nat.mul_comm X 256]
    exact this.symm
  rw [e3]
  omega

theorem pow_le {a b : Nat} (h : a ≤ b) : (256 : Int) ^ a ≤ 256 ^ b := by
  have h2 : ((256 ^ a : Nat) : Int) ≤ ((256 ^ b : Nat) : Int) := Int.ofNat_le.2 (Nat.pow_le_pow_right (by omega) h)
  rw [Int.natCast_pow, Int.natCast_pow] at h2
  exact h2
theorem u64_bd {n : Int} (h : (Lit.int .u64 n).wf = true) : 0 ≤ n ∧ n < 18446744073709551616 := by
  simp [Lit.wf, IntKind.min, IntKind.max, IntKind.signed, IntKind.bits] at h
  omega
theorem u32_bd {n : Int} (h : (Lit.int .u32 n).wf = true) : 0 ≤ n ∧ n < 4294967296 := by
  simp [Lit.wf, IntKind.min, IntKind.max, IntKind.signed, IntKind.bits] at h
  omega
theorem i64_bd {n : Int} (h : (Lit.int .i64 n).wf = true) : -9223372036854775808 ≤ n ∧ n ≤ 9223372036854775807 := by
  simp only [Lit.wf, IntKind.min, IntKind.max, IntKind.signed, IntKind.bits, Bool.and_eq_true, decide_eq_true_eq, if_true] at h
  omega
end Go.Proofs.Ytnjknabighmedaa.Oc
