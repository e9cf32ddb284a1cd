/- Plain lemmas over the printed functions, for ParamAsks. -/
import Derived.Test.YtmdncojhnbbafaaWWords
import Derived.Laws.BitsLemmas
import Derived.Test.YtmdncojhnbbafaaPAllx4
import Derived.Test.YtmdncojhnbbafaaPAllx9
import Derived.Test.YtmdncojhnbbafaaPAllx5
import Derived.Test.YtmdncojhnbbafaaPAllx11
import Derived.Test.YtmdncojhnbbafaaPAllx13
import Derived.Test.YtmdncojhnbbafaaPAllx20
import Derived.Test.YtmdncojhnbbafaaPAllx17
import Derived.Test.YtmdncojhnbbafaaPAllx18
import Derived.Test.YtmdncojhnbbafaaPAllx19
import Derived.Test.YtmdncojhnbbafaaPAllx21
import Derived.Test.YtmdncojhnbbafaaPAllx23
import Derived.Test.YtmdncojhnbbafaaPAllx33
import Derived.Test.YtmdncojhnbbafaaPAllx6
import Derived.Test.YtmdncojhnbbafaaPAllx31
import Derived.Test.YtmdncojhnbbafaaPAllx26
import Derived.Test.YtmdncojhnbbafaaPAllx44
import Derived.Test.YtmdncojhnbbafaaPAllx45
namespace Go.Proofs.Ytmdncojhnbbafaa.Bt
open Go Go.RowKit Go.Proofs.YtmdncojhnbbafaaW.PrintWords
set_option linter.unusedVariables false
set_option linter.unusedSimpArgs false
/-- From the end. -/
theorem snoc_ind {α : Type} {P : List α → Prop} (h0 : P []) (h1 : ∀ l a, P l → P (l ++ [a])) (l : List α) : P l := by
  have key : ∀ (n : Nat) (l : List α), l.length = n → P l := by
    intro n
    induction n with
    | zero => intro l h; rw [List.length_eq_zero_iff.1 h]; exact h0
    | succ n ih =>
      intro l h
      have hne : l ≠ [] := by rintro rfl; simp at h
      rw [← List.dropLast_concat_getLast hne]
      exact h1 _ _ (ih _ (by rw [List.length_dropLast]; omega))
  exact key _ l rfl
/-- A string out of its bytes. -/
def mk (l : List UInt8) : ByteArray := ⟨l.toArray⟩
theorem mk_data (l : List UInt8) : (mk l).data.toList = l := by simp [mk]
theorem eq_mk (s : ByteArray) : s = mk s.data.toList := by cases s; simp [mk]
theorem mk_inj {a b : List UInt8} (h : mk a = mk b) : a = b := by
  have := congrArg (fun s : ByteArray => s.data.toList) h
  simpa [mk_data] using this
theorem size_mk (l : List UInt8) : (mk l).size = l.length := by
  show (mk l).data.size = _
  simp [mk]
theorem mk_nil : (⟨#[]⟩ : ByteArray) = mk [] := rfl
theorem mk_append (a b : List UInt8) : mk a ++ mk b = mk (a ++ b) := by
  apply ByteArray.ext
  rw [ByteArray.data_append]
  simp [mk]
theorem extract_mk (l : List UInt8) (i j : Nat) : (mk l).extract i j = mk ((l.take j).drop i) := by
  apply ByteArray.ext
  rw [ByteArray.data_extract]
  apply Array.ext'
  simp [mk, List.extract_eq_take_drop, List.drop_take]
theorem toList_loop (s : ByteArray) : ∀ (n i : Nat) (r : List UInt8), s.size - i = n → ByteArray.toList.loop s i r = r.reverse ++ s.data.toList.drop i := by
  have hsz : s.data.toList.length = s.size := by rw [Array.length_toList]; rfl
  intro n
  induction n with
  | zero =>
    intro i r h
    unfold ByteArray.toList.loop
    rw [if_neg (by omega), List.drop_of_length_le (by omega)]
    simp
  | succ n ih =>
    intro i r h
    unfold ByteArray.toList.loop
    rw [if_pos (by omega), ih (i + 1) _ (by omega)]
    have hlt : i < s.data.toList.length := by omega
    have e : s.data.toList.drop i = s.data.toList[i] :: s.data.toList.drop (i + 1) := List.drop_eq_getElem_cons hlt
    rw [e]
    have hg : s.get! i = s.data.toList[i] := by
      have hi : i < s.data.size := by simpa using hlt
      show s.data[i]! = _
      rw [getElem!_pos s.data i hi]
      simp
    simp [hg]
theorem toList_mk (l : List UInt8) : (mk l).toList = l := by
  unfold ByteArray.toList
  rw [toList_loop (mk l) _ 0 [] rfl, mk_data]
  simp
theorem bt_mk (l : List UInt8) (i : Int) : bt (mk l) i = ((l.getD i.toNat 0).toNat : Int) := by
  unfold bt
  by_cases h : i.toNat < l.length
  · rw [dif_pos (by rw [size_mk]; exact h)]
    have e : (mk l)[i.toNat]'(by rw [size_mk]; exact h) = l[i.toNat]'h := by
      show (mk l).data[i.toNat]'_ = _
      simp [mk]
    rw [e]
    simp [List.getD_eq_getElem?_getD, h]
  · rw [dif_neg (by rw [size_mk]; exact h)]
    simp [List.getD_eq_getElem?_getD, List.getElem?_eq_none (show l.length ≤ i.toNat by omega)]
/-- A number's lowest byte. -/
def b8 (n : Int) : UInt8 := UInt8.ofNat n.toNat
theorem strOfNums_mk (xs : List Int) : strOfNums xs = mk (xs.map b8) := rfl
theorem b8_toNat {n : Int} (h0 : 0 ≤ n) (h1 : n < 256) : ((b8 n).toNat : Int) = n := by
  unfold b8
  rw [UInt8.toNat_ofNat']
  omega
theorem b8_of (b : UInt8) : b8 (b.toNat : Int) = b := by
  unfold b8
  simp
/-- A number's bytes, the highest first. -/
def be : Nat → Int → List UInt8
  | 0, _ => []
  | b + 1, n => be b (n / 256) ++ [b8 (n % 256)]
theorem be_length (b : Nat) : ∀ n, (be b n).length = b := by
  induction b with
  | zero => intro n; rfl
  | succ b ih => intro n; simp [be, ih]
/-- What bytes say, the highest first. -/
def num (l : List UInt8) : Int := l.foldl (fun n b => n * 256 + (b.toNat : Int)) 0
theorem num_snoc (l : List UInt8) (b : UInt8) : num (l ++ [b]) = num l * 256 + (b.toNat : Int) := by simp [num, List.foldl_append]
theorem num_bound (l : List UInt8) : 0 ≤ num l ∧ num l < 256 ^ l.length := by
  induction l using snoc_ind with
  | h0 => simp [num]
  | h1 l b ih =>
    have hb := b.toNat_lt
    rw [num_snoc, List.length_append, List.length_singleton, Int.pow_succ]
    omega
theorem num_be (b : Nat) : ∀ n : Int, 0 ≤ n → num (be b n) = n % 256 ^ b := by
  induction b with
  | zero =>
    intro n h
    show 0 = n % 1
    omega
  | succ b ih =>
    intro n h
    have h2 : 0 ≤ n % 256 ∧ n % 256 < 256 := by omega
    rw [be, num_snoc, ih _ (by omega), b8_toNat h2.1 h2.2]
    have hp : (256 : Int) ^ b > 0 := Int.pow_pos (by omega)
    rw [Int.pow_succ]
    generalize (256 : Int) ^ b = p at hp
    have hq := Int.mul_ediv_add_emod n 256
    have hu := Int.mul_ediv_add_emod (n / 256) p
    have hu0 := Int.emod_nonneg (n / 256) (show p ≠ 0 by omega)
    have hu1 := Int.emod_lt_of_pos (n / 256) hp
    have e0 : p * 256 * (n / 256 / p) = 256 * (p * (n / 256 / p)) := by rw [Int.mul_comm p 256, Int.mul_assoc]
    have e : n = (n / 256 % p * 256 + n % 256) + p * 256 * (n / 256 / p) := by omega
    have e2 : n % (p * 256) = (n / 256 % p * 256 + n % 256) % (p * 256) := by
      conv =>
        lhs
        rw [e]
      rw [Int.add_mul_emod_self_left]
    rw [e2]
    exact (Int.emod_eq_of_lt (by omega) (by omega)).symm
theorem be_num (l : List UInt8) : be l.length (num l) = l := by
  induction l using snoc_ind with
  | h0 => rfl
  | h1 l b ih =>
    have hb := b.toNat_lt
    rw [List.length_append, List.length_singleton, be, num_snoc]
    have e1 : (num l * 256 + (b.toNat : Int)) / 256 = num l := by omega
    have e2 : (num l * 256 + (b.toNat : Int)) % 256 = (b.toNat : Int) := by omega
    rw [e1, e2, ih, b8_of]
end Go.Proofs.Ytmdncojhnbbafaa.Bt
namespace Go.Proofs.Ytmdncojhnbbafaa.Oc
open Go Go.RowKit Go.Proofs.YtmdncojhnbbafaaW.PrintWords Go.Proofs.Ytmdncojhnbbafaa.Bt Go.Proofs.Ytmdncojhnbbafaa.PAll
set_option linter.unusedVariables false
set_option linter.unusedSimpArgs false
theorem w64 {n : Int} (h0 : -9223372036854775808 ≤ n) (h1 : n ≤ 9223372036854775807) : wrap64 n = n := by unfold wrap64; omega
theorem wu64 (n : Int) : IntKind.u64.wrap n = n % 18446744073709551616 := by simp [IntKind.wrap, IntKind.bits, IntKind.signed]
theorem tdiv_pos {n m : Int} (h : 0 ≤ n) : Int.tdiv n m = n / m := Int.tdiv_eq_ediv_of_nonneg h
theorem tmod_pos {n m : Int} (h : 0 ≤ n) : Int.tmod n m = n % m := Int.tmod_eq_emod_of_nonneg h
theorem and_nat (k : IntKind) (x : Int) (m j : Nat) (hm : m = 2 ^ j - 1) (hj : j < k.bits) : ((BitVec.ofInt k.bits x &&& BitVec.ofInt k.bits (m : Int)).toNat : Int) = x % 2 ^ j := by
  subst hm
  have hp : 2 ^ j < 2 ^ k.bits := Nat.pow_lt_pow_right (by omega) hj
  have hp0 : 0 < 2 ^ j := Nat.two_pow_pos j
  rw [BitVec.toNat_and]
  have e1 : (BitVec.ofInt k.bits ((2 ^ j - 1 : Nat) : Int)).toNat = 2 ^ j - 1 := by
    rw [BitVec.ofInt_natCast, BitVec.toNat_ofNat]
    exact Nat.mod_eq_of_lt (by omega)
  rw [e1, Nat.and_two_pow_sub_one_eq_mod, BitVec.toNat_ofInt]
  have hz : (0 : Int) ≤ x % ((2 ^ k.bits : Nat) : Int) := Int.emod_nonneg _ (by have := Nat.two_pow_pos k.bits; omega)
  rw [Int.natCast_emod, Int.toNat_of_nonneg hz]
  have hd : ((2 ^ j : Nat) : Int) ∣ ((2 ^ k.bits : Nat) : Int) := Int.ofNat_dvd.2 (Nat.pow_dvd_pow 2 (by omega))
  rw [Int.emod_emod_of_dvd _ hd, Int.natCast_pow]
  rfl
/-- 'x & m', m one less than a power of two. -/
theorem and_i64 (x : Int) (m j : Nat) (hm : m = 2 ^ j - 1) (hj : j ≤ 62) : Go.bits .and .i64 x (m : Int) = x % 2 ^ j := by
  have h := and_nat .i64 x m j hm (by show j < 64; omega)
  unfold Go.bits
  simp only
  rw [h, IntKind.wrap_i64]
  have h0 : (0 : Int) < 2 ^ j := Int.pow_pos (by omega)
  have h1 : (2 : Int) ^ j ≤ 2 ^ 62 := by
    have := Nat.pow_le_pow_right (show 2 > 0 by omega) hj
    exact_mod_cast this
  have h2 : (2 : Int) ^ 62 = 4611686018427387904 := by decide
  have h3 := Int.emod_nonneg x (show (2 : Int) ^ j ≠ 0 by omega)
  have h4 := Int.emod_lt_of_pos x h0
  omega
theorem and_u64 (x : Int) (m j : Nat) (hm : m = 2 ^ j - 1) (hj : j ≤ 63) : Go.bits .and .u64 x (m : Int) = x % 2 ^ j := by
  have h := and_nat .u64 x m j hm (by show j < 64; omega)
  unfold Go.bits
  simp only
  rw [h, wu64]
  have h0 : (0 : Int) < 2 ^ j := Int.pow_pos (by omega)
  have h1 : (2 : Int) ^ j ≤ 2 ^ 63 := by
    have := Nat.pow_le_pow_right (show 2 > 0 by omega) hj
    exact_mod_cast this
  have h2 : (2 : Int) ^ 63 = 9223372036854775808 := by decide
  have h3 := Int.emod_nonneg x (show (2 : Int) ^ j ≠ 0 by omega)
  have h4 := Int.emod_lt_of_pos x h0
  omega
theorem and_u32 (x : Int) (m j : Nat) (hm : m = 2 ^ j - 1) (hj : j ≤ 31) : Go.bits .and .u32 x (m : Int) = x % 2 ^ j := by
  have h := and_nat .u32 x m j hm (by show j < 32; omega)
  unfold Go.bits
  simp only
  rw [h, IntKind.wrap_u32]
  have h0 : (0 : Int) < 2 ^ j := Int.pow_pos (by omega)
  have h1 : (2 : Int) ^ j ≤ 2 ^ 31 := by
    have := Nat.pow_le_pow_right (show 2 > 0 by omega) hj
    exact_mod_cast this
  have h2 : (2 : Int) ^ 31 = 2147483648 := by decide
  have h3 := Int.emod_nonneg x (show (2 : Int) ^ j ≠ 0 by omega)
  have h4 := Int.emod_lt_of_pos x h0
  omega
/-- 'x*256 | b' of a byte. -/
theorem or_byte (x b : Int) (hx0 : 0 ≤ x) (hx : x < 72057594037927936) (hb0 : 0 ≤ b) (hb : b < 256) : Go.bits .or .u64 (x * 256) b = x * 256 + b := by
  obtain ⟨X, rfl⟩ := Int.eq_ofNat_of_zero_le hx0
  obtain ⟨B, rfl⟩ := Int.eq_ofNat_of_zero_le hb0
  unfold Go.bits
  simp only
  have e1 : (BitVec.ofInt IntKind.u64.bits ((X : Int) * 256)).toNat = X * 256 := by
    rw [show ((X : Int) * 256) = ((X * 256 : Nat) : Int) by omega, BitVec.ofInt_natCast, BitVec.toNat_ofNat]
    exact Nat.mod_eq_of_lt (by show _ < 2 ^ 64; omega)
  have e2 : (BitVec.ofInt IntKind.u64.bits (B : Int)).toNat = B := by
    rw [BitVec.ofInt_natCast, BitVec.toNat_ofNat]
    exact Nat.mod_eq_of_lt (by show _ < 2 ^ 64; omega)
  rw [BitVec.toNat_or, e1, e2, wu64]
  have e3 : X * 256 ||| B = X * 256 + B := by
    have := Nat.two_pow_add_eq_or_of_lt (i := 8) (b := B) (by omega) X
    rw [Nat.mul_comm X 256]
    exact this.symm
  rw [e3]
  omega

theorem pow_le {a b : Nat} (h : a ≤ b) : (256 : Int) ^ a ≤ 256 ^ b := by
  have h2 : ((256 ^ a : Nat) : Int) ≤ ((256 ^ b : Nat) : Int) := Int.ofNat_le.2 (Nat.pow_le_pow_right (by omega) h)
  rw [Int.natCast_pow, Int.natCast_pow] at h2
  exact h2
theorem u64_bd {n : Int} (h : (Lit.int .u64 n).wf = true) : 0 ≤ n ∧ n < 18446744073709551616 := by
  simp [Lit.wf, IntKind.min, IntKind.max, IntKind.signed, IntKind.bits] at h
  omega
theorem u32_bd {n : Int} (h : (Lit.int .u32 n).wf = true) : 0 ≤ n ∧ n < 4294967296 := by
  simp [Lit.wf, IntKind.min, IntKind.max, IntKind.signed, IntKind.bits] at h
  omega
theorem i64_bd {n : Int} (h : (Lit.int .i64 n).wf = true) : -9223372036854775808 ≤ n ∧ n ≤ 9223372036854775807 := by
  simp only [Lit.wf, IntKind.min, IntKind.max, IntKind.signed, IntKind.bits, Bool.and_eq_true, decide_eq_true_eq, if_true] at h
  omega
theorem mn_nat (a b : Nat) : mn (a : Int) (b : Int) = ((min a b : Nat) : Int) := by
  unfold mn
  split <;> omega
theorem be2 (n : Int) : be 2 n = [b8 (n / 256 % 256), b8 (n % 256)] := rfl
theorem be4 (n : Int) : be 4 n = [b8 (n / 16777216 % 256), b8 (n / 65536 % 256), b8 (n / 256 % 256), b8 (n % 256)] := by
  have e1 : n / 256 / 256 = n / 65536 := by omega
  have e2 : n / 65536 / 256 = n / 16777216 := by omega
  simp [be, e1, e2]
theorem U16_eq (n : Int) : octet_U16.f n = some (mk (be 2 n)) := by
  rw [be2]
  rfl
theorem U32_eq (n : Int) : octet_U32.f n = some (mk (be 4 n)) := by
  rw [be4]
  rfl
theorem be4_mod (n : Int) : be 4 (n % 4294967296) = be 4 n := by
  rw [be4, be4]
  have e1 : n % 4294967296 / 16777216 % 256 = n / 16777216 % 256 := by omega
  have e2 : n % 4294967296 / 65536 % 256 = n / 65536 % 256 := by omega
  have e3 : n % 4294967296 / 256 % 256 = n / 256 % 256 := by omega
  have e4 : n % 4294967296 % 256 = n % 256 := by omega
  rw [e1, e2, e3, e4]
def fills (n : Nat) : Nat := (4 - n % 4) % 4
def fill (l : List UInt8) : List UInt8 := l ++ List.replicate (fills l.length) 0
theorem Pad_eq (n : Nat) (h : n < 4611686018427387904) : octet_Pad.f (n : Int) = some ((fills n : Nat) : Int) := by
  unfold octet_Pad.f
  rw [w64 (by omega) (by omega)]
  have e := and_i64 (-(n : Int)) 3 2 rfl (by omega)
  have e' : Go.bits .and .i64 (-(n : Int)) 3 = (-(n : Int)) % 4 := e
  rw [e']
  unfold fills
  congr 1
  omega
theorem take_zeros (j : Nat) (h : j ≤ 3) : ([0, 0, 0] : List UInt8).take j = List.replicate j 0 := by
  match j, h with
  | 0, _ => rfl
  | 1, _ => rfl
  | 2, _ => rfl
  | 3, _ => rfl
theorem fills_le (n : Nat) : fills n ≤ 3 := by unfold fills; omega
theorem Filled_eq (l : List UInt8) (h : l.length < 4611686018427387904) : octet_Filled.f (mk l) = some (mk (fill l)) := by
  unfold octet_Filled.f
  have hf := fills_le l.length
  rw [size_mk, Pad_eq _ h]
  simp only [Option.bind_some]
  have e : ((⟨#[0, 0, 0]⟩ : ByteArray).extract 0 ((fills l.length : Nat) : Int).toNat) = mk (List.replicate (fills l.length) 0) := by
    show (mk [0, 0, 0]).extract 0 _ = _
    rw [extract_mk, Int.toNat_natCast, take_zeros _ hf]
    rfl
  rw [e, if_pos (by omega), if_pos (by omega), if_pos (by rw [size_mk, List.length_replicate]; omega), mk_append]
  rfl
theorem fill_length (l : List UInt8) : (fill l).length = l.length + fills l.length := by simp [fill]
/-- So many bytes of those, with the first error: these, what is left, the error. -/
def tk (l : List UInt8) (e n : Int) : List UInt8 × List UInt8 × Int :=
  if e = 0 ∧ 0 ≤ n ∧ n ≤ l.length then (l.take n.toNat, l.drop n.toNat, 0) else ([], l, if e = 0 then 2 else e)
theorem Fail_eq (l : List UInt8) (e x : Int) : octet_Reader_Fail.f (mk l) e x = some (mk l, if e = 0 then x else e) := by
  unfold octet_Reader_Fail.f
  split <;> rfl
theorem tk_ok {l : List UInt8} {n : Int} (h0 : 0 ≤ n) (h1 : n ≤ l.length) : tk l 0 n = (l.take n.toNat, l.drop n.toNat, 0) := by
  unfold tk
  rw [if_pos ⟨rfl, h0, h1⟩]
theorem tk_bad {l : List UInt8} {e n : Int} (h : ¬ (e = 0 ∧ 0 ≤ n ∧ n ≤ l.length)) : tk l e n = ([], l, if e = 0 then 2 else e) := by
  unfold tk
  rw [if_neg h]
theorem Take_eq (l : List UInt8) (e n : Int) : octet_Reader_Take.f (mk l) e n = some (mk (tk l e n).1, mk (tk l e n).2.1, (tk l e n).2.2) := by
  unfold octet_Reader_Take.f octet_Reader_Err.f
  simp only [Option.bind_some, size_mk, Fail_eq]
  by_cases he : e = 0
  · subst he
    rw [if_pos rfl]
    by_cases h1 : n < 0
    · rw [if_pos h1, tk_bad (by omega)]
      rfl
    · rw [if_neg h1]
      by_cases h2 : n > (l.length : Int)
      · rw [if_pos h2, tk_bad (by omega)]
        rfl
      · rw [if_neg h2, if_pos (by omega), if_pos (by omega), tk_ok (by omega) (by omega), extract_mk, extract_mk]
        simp
  · rw [if_neg he, tk_bad (by omega)]
    simp [mk, if_neg he]
theorem number_l0 (l : List UInt8) (hl : l.length ≤ 8) (a : ByteArray) (b : Int) : ∀ (d k i : Nat), l.length - i = d → i ≤ l.length → d < k →
    octet_Reader_number.l0 k (num (l.take i)) (mk l) (l.length : Int) (i : Int) a b = some (num l, a, b) := by
  intro d
  induction d with
  | zero =>
    intro k i hd hi hk
    obtain ⟨k, rfl⟩ : ∃ m, k = m + 1 := ⟨k - 1, by omega⟩
    simp only [octet_Reader_number.l0]
    rw [if_neg (by omega), List.take_of_length_le (by omega)]
  | succ d ih =>
    intro k i hd hi hk
    obtain ⟨k, rfl⟩ : ∃ m, k = m + 1 := ⟨k - 1, by omega⟩
    have hlt : i < l.length := by omega
    simp only [octet_Reader_number.l0]
    rw [if_pos (by omega), if_pos (by omega), if_pos (by rw [size_mk]; omega), bt_mk]
    have hb := num_bound (l.take i)
    have hle : (256 : Int) ^ (l.take i).length ≤ 256 ^ 7 := pow_le (by rw [List.length_take]; omega)
    have h7 : (256 : Int) ^ 7 = 72057594037927936 := by decide
    have hg : (l.getD (i : Int).toNat 0) = l[i] := by simp [List.getD_eq_getElem?_getD, hlt]
    have hby := (l[i]).toNat_lt
    rw [hg, wu64, wu64, Int.emod_eq_of_lt (by omega) (by omega), Int.emod_eq_of_lt (by omega) (by omega), or_byte _ _ (by omega) (by omega) (by omega) (by omega), ← num_snoc, w64 (by omega) (by omega)]
    have e : l.take i ++ [l[i]] = l.take (i + 1) := by simp
    rw [e]
    exact ih k (i + 1) (by omega) (by omega) (by omega)
theorem number_eq (l : List UInt8) (e n : Int) (k : Nat) (hn : n ≤ 8) (hk : 9 ≤ k) : octet_Reader_number.f k (mk l) e n = some (num (tk l e n).1, mk (tk l e n).2.1, (tk l e n).2.2) := by
  unfold octet_Reader_number.f
  rw [Take_eq]
  simp only [Option.bind_some, size_mk]
  have hl : (tk l e n).1.length ≤ 8 := by
    unfold tk
    split
    · rw [List.length_take]; omega
    · simp
  have := number_l0 (tk l e n).1 hl (mk (tk l e n).2.1) (tk l e n).2.2 (tk l e n).1.length k 0 (by omega) (by omega) (by omega)
  simpa [num] using this
theorem num_tk (l : List UInt8) (e n : Int) (b : Nat) (hb : n = b) : 0 ≤ num (tk l e n).1 ∧ num (tk l e n).1 < 256 ^ b := by
  have h := num_bound (tk l e n).1
  refine ⟨h.1, Int.lt_of_lt_of_le h.2 (pow_le ?_)⟩
  unfold tk
  split
  · rw [List.length_take]; omega
  · simp
theorem rU16_eq (l : List UInt8) (e : Int) (k : Nat) (hk : 9 ≤ k) : octet_Reader_U16.f k (mk l) e = some (num (tk l e 2).1, mk (tk l e 2).2.1, (tk l e 2).2.2) := by
  unfold octet_Reader_U16.f
  rw [number_eq l e 2 k (by omega) hk]
  have := num_tk l e 2 2 rfl
  simp only [Option.bind_some]
  rw [w64 (by omega) (by omega)]
theorem rU32_eq (l : List UInt8) (e : Int) (k : Nat) (hk : 9 ≤ k) : octet_Reader_U32.f k (mk l) e = some (num (tk l e 4).1, mk (tk l e 4).2.1, (tk l e 4).2.2) := by
  unfold octet_Reader_U32.f
  rw [number_eq l e 4 k (by omega) hk]
  have := num_tk l e 4 4 rfl
  simp only [Option.bind_some]
  rw [Int.emod_eq_of_lt (by omega) (by omega)]
theorem Err_eq (s : ByteArray) (e : Int) : octet_Reader_Err.f s e = some (e, s, e) := rfl
theorem Left_eq (l : List UInt8) (e : Int) : octet_Reader_Left.f (mk l) e = some (if e = 0 then (l.length : Int) else 0, mk l, e) := by
  unfold octet_Reader_Left.f octet_Reader_Err.f
  simp only [Option.bind_some, size_mk]
  split <;> rfl
end Go.Proofs.Ytmdncojhnbbafaa.Oc
namespace Go.Proofs.Ytmdncojhnbbafaa.Rd
open Go Go.RowKit Go.Proofs.YtmdncojhnbbafaaW.PrintWords Go.Proofs.Ytmdncojhnbbafaa.Bt Go.Proofs.Ytmdncojhnbbafaa.PAll Go.Proofs.Ytmdncojhnbbafaa.Oc
set_option linter.unusedVariables false
set_option linter.unusedSimpArgs false
/-- What the document's reader has left. -/
def rf (l : List UInt8) (e : Int) : ByteArray := mk (if e = 0 then l else [])
theorem rf_ok (l : List UInt8) : rf l 0 = mk l := rfl
theorem rf_bad (l : List UInt8) {e : Int} (h : e ≠ 0) : rf l e = mk [] := by unfold rf; rw [if_neg h]
theorem rf_size (l : List UInt8) (e : Int) : ((rf l e).size : Int) = if e = 0 then (l.length : Int) else 0 := by
  unfold rf
  rw [size_mk]
  split <;> rfl
theorem rFail (l : List UInt8) (e x : Int) (hx : x ≠ 0) : crosswayref03_R_Fail.f (rf l e) e x = some (rf l (if e = 0 then x else e), if e = 0 then x else e) := by
  unfold crosswayref03_R_Fail.f
  by_cases h : e = 0
  · subst h
    rw [if_pos rfl, if_pos rfl, rf_bad l hx]
    rfl
  · rw [if_neg h, if_neg h]
theorem rTake (l : List UInt8) (e n : Int) : crosswayref03_R_Take.f (rf l e) e n = some (rf (tk l e n).2.1 (tk l e n).2.2, (tk l e n).2.2, mk (tk l e n).1) := by
  unfold crosswayref03_R_Take.f
  by_cases he : e = 0
  · subst he
    rw [if_pos rfl, rf_ok, size_mk]
    have hf : crosswayref03_R_Fail.f (mk l) 0 2 = some (mk [], 2) := rFail l 0 2 (by omega)
    by_cases h1 : n < 0
    · rw [if_pos h1, hf, tk_bad (by omega)]
      rfl
    · rw [if_neg h1]
      by_cases h2 : n > (l.length : Int)
      · rw [if_pos h2, hf, tk_bad (by omega)]
        rfl
      · rw [if_neg h2, if_pos (by omega), if_pos (by omega), tk_ok (by omega) (by omega), extract_mk, extract_mk]
        simp [rf]
  · rw [if_neg he, tk_bad (by omega)]
    simp only [if_neg he]
    rfl
theorem num_l0 (l : List UInt8) (hl : l.length ≤ 8) (a : ByteArray) (b : Int) : ∀ (d k i : Nat), l.length - i = d → i ≤ l.length → d < k →
    crosswayref03_R_Num.l0 k (mk l) (num (l.take i)) (i : Int) a b = some (a, b, num l) := by
  intro d
  induction d with
  | zero =>
    intro k i hd hi hk
    obtain ⟨k, rfl⟩ : ∃ m, k = m + 1 := ⟨k - 1, by omega⟩
    simp only [crosswayref03_R_Num.l0]
    rw [size_mk, if_neg (by omega), List.take_of_length_le (by omega)]
  | succ d ih =>
    intro k i hd hi hk
    obtain ⟨k, rfl⟩ : ∃ m, k = m + 1 := ⟨k - 1, by omega⟩
    have hlt : i < l.length := by omega
    simp only [crosswayref03_R_Num.l0]
    rw [size_mk, if_pos (by omega), if_pos (by omega), bt_mk]
    have hb := num_bound (l.take i)
    have hle : (256 : Int) ^ (l.take i).length ≤ 256 ^ 7 := pow_le (by rw [List.length_take]; omega)
    have h7 : (256 : Int) ^ 7 = 72057594037927936 := by decide
    have hg : (l.getD (i : Int).toNat 0) = l[i] := by simp [List.getD_eq_getElem?_getD, hlt]
    have hby := (l[i]).toNat_lt
    rw [hg, wu64, wu64, wu64, Int.emod_eq_of_lt (show 0 ≤ num (l.take i) * 256 by omega) (by omega), Int.emod_eq_of_lt (show (0 : Int) ≤ (l[i].toNat : Int) by omega) (by omega), Int.emod_eq_of_lt (by omega) (by omega), ← num_snoc, w64 (by omega) (by omega)]
    have e : l.take i ++ [l[i]] = l.take (i + 1) := by simp
    rw [e]
    exact ih k (i + 1) (by omega) (by omega) (by omega)
theorem rNum (l : List UInt8) (e n : Int) (k : Nat) (hn : n ≤ 8) (hk : 9 ≤ k) : crosswayref03_R_Num.f k (rf l e) e n = some (rf (tk l e n).2.1 (tk l e n).2.2, (tk l e n).2.2, num (tk l e n).1) := by
  unfold crosswayref03_R_Num.f
  rw [rTake]
  simp only [Option.bind_some]
  have hl : (tk l e n).1.length ≤ 8 := by
    unfold tk
    split
    · rw [List.length_take]; omega
    · simp
  have := num_l0 (tk l e n).1 hl (rf (tk l e n).2.1 (tk l e n).2.2) (tk l e n).2.2 (tk l e n).1.length k 0 (by omega) (by omega) (by omega)
  simpa [num] using this
/-- Noughts alone. -/
def zr (s : List UInt8) : Bool := s.all (· == 0)
theorem zr_iff (s : List UInt8) : zr s = true ↔ s = List.replicate s.length 0 := by
  unfold zr
  rw [List.all_eq_true, List.eq_replicate_iff]
  simp
/-- Behind what fills up n bytes. -/
def fl (l : List UInt8) (n : Nat) : List UInt8 × Int := if zr (l.take (fills n)) = true then (l.drop (fills n), 0) else (l.drop (fills n), 4)
def fls (l : List UInt8) (e : Int) (n : Nat) : List UInt8 × Int := if e = 0 then fl l n else (l, e)
theorem take_min (l : List UInt8) (j : Nat) : l.take (min j l.length) = l.take j := by
  rcases Nat.le_total j l.length with h | h
  · rw [Nat.min_eq_left h]
  · rw [Nat.min_eq_right h, List.take_of_length_le (Nat.le_refl _), List.take_of_length_le h]
theorem drop_min (l : List UInt8) (j : Nat) : l.drop (min j l.length) = l.drop j := by
  rcases Nat.le_total j l.length with h | h
  · rw [Nat.min_eq_left h]
  · rw [Nat.min_eq_right h, List.drop_of_length_le (Nat.le_refl _), List.drop_of_length_le h]
theorem Fill_eq (l : List UInt8) (e : Int) (n : Nat) (hn : n < 4611686018427387904) : octet_Reader_Fill.f (mk l) e (n : Int) = some (mk (fls l e n).1, (fls l e n).2) := by
  unfold octet_Reader_Fill.f
  rw [Pad_eq n hn]
  simp only [Option.bind_some, Left_eq]
  have hf := fills_le n
  by_cases he : e = 0
  · subst he
    have em : mn ((fills n : Nat) : Int) (l.length : Int) = ((min (fills n) l.length : Nat) : Int) := mn_nat _ _
    rw [if_pos rfl, em, Take_eq, tk_ok (by omega) (by omega)]
    simp only [Option.bind_some, Int.toNat_natCast, take_min, drop_min, size_mk]
    have hlen : (l.take (fills n)).length ≤ 3 := by rw [List.length_take]; omega
    rw [if_pos (by omega), if_pos (by omega)]
    have ez : ((⟨#[0, 0, 0]⟩ : ByteArray).extract 0 (l.take (fills n)).length) = mk (List.replicate (l.take (fills n)).length 0) := by
      show (mk [0, 0, 0]).extract 0 _ = _
      rw [extract_mk, take_zeros _ hlen]
      rfl
    rw [ez, toList_mk, toList_mk]
    have hz := zr_iff (l.take (fills n))
    unfold fls fl
    rw [if_pos rfl]
    by_cases h : zr (l.take (fills n)) = true
    · rw [if_pos (hz.1 h), if_pos h]
    · rw [if_neg (fun h2 => h (hz.2 h2)), if_neg h, Fail_eq]
      rfl
  · have em : mn ((fills n : Nat) : Int) 0 = ((min (fills n) 0 : Nat) : Int) := mn_nat _ 0
    rw [if_neg he, em, Take_eq, tk_bad (by omega)]
    simp only [Option.bind_some, size_mk, if_neg he]
    unfold fls
    rw [if_neg he, if_pos (by simp), if_pos (by simp)]
    have ez : ((⟨#[0, 0, 0]⟩ : ByteArray).extract 0 ([] : List UInt8).length) = mk [] := by
      show (mk [0, 0, 0]).extract 0 _ = _
      rw [extract_mk]
      rfl
    rw [ez, if_pos rfl]
theorem End_eq (l : List UInt8) (e : Int) (k : Nat) (hk : 1 ≤ k) : ∃ s e', octet_Reader_End.f k (mk l) e = some ((if e = 0 ∧ l ≠ [] then 3 else e), s, e') := by
  obtain ⟨k, rfl⟩ : ∃ m, k = m + 1 := ⟨k - 1, by omega⟩
  unfold octet_Reader_End.f
  simp only [Err_eq, Option.bind_some, octet_Reader_End.j0, size_mk, Fail_eq]
  by_cases he : e = 0
  · subst he
    rw [if_pos rfl]
    cases l with
    | nil => exact ⟨mk [], 0, by simp⟩
    | cons a l =>
      have : ((a :: l).length : Int) > 0 := by simp
      exact ⟨mk (a :: l), 3, by simp [this]⟩
  · rw [if_neg he]
    exact ⟨mk l, e, by simp [he]⟩
end Go.Proofs.Ytmdncojhnbbafaa.Rd
namespace Go.Proofs.Ytmdncojhnbbafaa.Pm
open Go Go.RowKit Go.Proofs.YtmdncojhnbbafaaW.PrintWords Go.Proofs.Ytmdncojhnbbafaa.Bt Go.Proofs.Ytmdncojhnbbafaa.PAll Go.Proofs.Ytmdncojhnbbafaa.Oc Go.Proofs.Ytmdncojhnbbafaa.Rd
set_option linter.unusedVariables false
set_option linter.unusedSimpArgs false
abbrev It := Int × List UInt8
def p65 (x : It) : S65 := ⟨x.1, mk x.2⟩
def p85 (x : It) : S85 := ⟨x.1, mk x.2⟩
/-- The second number of a head. -/
def hn (l : List UInt8) : Int := num ((l.drop 2).take 2)
theorem hn_bd (l : List UInt8) : 0 ≤ hn l ∧ hn l < 65536 := by
  have h := num_bound ((l.drop 2).take 2)
  have : (256 : Int) ^ ((l.drop 2).take 2).length ≤ 256 ^ 2 := pow_le (by rw [List.length_take]; omega)
  have e : (256 : Int) ^ 2 = 65536 := by decide
  unfold hn
  omega
/-- One parameter of bytes: its type, its value, what is left, the error. -/
def ptake (l : List UInt8) : Int × List UInt8 × List UInt8 × Int :=
  if l.length < 4 then (0, [], l, 2)
  else if hn l < 4 ∨ hn l > 1004 then (0, [], l.drop 4, 3)
  else if (l.drop 4).length < (hn l - 4).toNat + fills (hn l - 4).toNat then (0, [], l.drop 4, 2)
  else if zr (((l.drop 4).drop (hn l - 4).toNat).take (fills (hn l - 4).toNat)) = true then (num (l.take 2), (l.drop 4).take (hn l - 4).toNat, ((l.drop 4).drop (hn l - 4).toNat).drop (fills (hn l - 4).toNat), 0)
  else (0, [], l.drop 4, 4)
theorem num_take2 (l : List UInt8) : 0 ≤ num (l.take 2) ∧ num (l.take 2) < 65536 := by
  have h := num_bound (l.take 2)
  have : (256 : Int) ^ (l.take 2).length ≤ 256 ^ 2 := pow_le (by rw [List.length_take]; omega)
  have e : (256 : Int) ^ 2 = 65536 := by decide
  omega
theorem j1_err (l : List UInt8) (e m t : Int) (v : ByteArray) (k : Nat) (he : e ≠ 0) (hk : 1 ≤ k) : param_Take.j1 k m (mk l) e t v = some (0, mk [], mk l, e) := by
  obtain ⟨k, rfl⟩ : ∃ m, k = m + 1 := ⟨k - 1, by omega⟩
  simp only [param_Take.j1, Take_eq]
  rw [tk_bad (by omega)]
  simp only [Option.bind_some, Err_eq, if_neg he]
  rfl
theorem j2_eq (l : List UInt8) (e t : Int) (m : Nat) (v : ByteArray) (k : Nat) (hm : m ≤ 1000) (hk : 1 ≤ k) : param_Take.j2 k (m : Int) (mk l) e t v = if (fls l e m).2 = 0 then some (t, v, mk (fls l e m).1, 0) else some (0, mk [], mk (fls l e m).1, (fls l e m).2) := by
  obtain ⟨k, rfl⟩ : ∃ m, k = m + 1 := ⟨k - 1, by omega⟩
  simp only [param_Take.j2, Fill_eq l e m (by omega), Option.bind_some, Err_eq]
  split
  · rename_i h
    rw [h]
  · rfl
theorem pTake_eq (l : List UInt8) (hl : l.length < 4611686018427387904) (k : Nat) (hk : 20 ≤ k) : ∃ l', param_Take.f k (mk l) 0 = some ((ptake l).1, mk (ptake l).2.1, mk l', (ptake l).2.2.2) ∧ ((ptake l).2.2.2 = 0 → l' = (ptake l).2.2.1) := by
  obtain ⟨k, rfl⟩ : ∃ m, k = m + 3 := ⟨k - 3, by omega⟩
  unfold param_Take.f
  rw [rU16_eq l 0 _ (by omega)]
  simp only [Option.bind_some]
  by_cases h4 : l.length < 4
  · have hp : ptake l = (0, [], l, 2) := by unfold ptake; rw [if_pos h4]
    rw [hp]
    have err : ∀ q : List UInt8, param_Take.j0 (k + 3) (wrap64 (num [] - 4)) false (mk q) 2 (num (tk l 0 2).1) (⟨#[]⟩ : ByteArray) = some (0, mk [], mk q, 2) := by
      intro q
      simp only [param_Take.j0, Bool.false_eq_true, if_false]
      exact j1_err q 2 _ _ _ _ (by omega) (by omega)
    by_cases h2 : l.length < 2
    · refine ⟨l, ?_, fun h => by cases h⟩
      have e1 : tk l 0 2 = ([], l, 2) := tk_bad (by omega)
      rw [e1]
      simp only
      rw [rU16_eq l 2 _ (by omega), tk_bad (by omega)]
      simp only [Option.bind_some, Err_eq]
      rw [e1] at err
      exact err l
    · refine ⟨l.drop 2, ?_, fun h => by cases h⟩
      have e1 : tk l 0 2 = (l.take 2, l.drop 2, 0) := tk_ok (by omega) (by omega)
      have e2 : tk (l.drop 2) 0 2 = ([], l.drop 2, 2) := tk_bad (by rw [List.length_drop]; omega)
      rw [e1] at err ⊢
      simp only
      rw [rU16_eq (l.drop 2) 0 _ (by omega), e2]
      simp only [Option.bind_some, Err_eq]
      exact err (l.drop 2)
  · have e1 : tk l 0 2 = (l.take 2, l.drop 2, 0) := tk_ok (by omega) (by omega)
    have e2 : tk (l.drop 2) 0 2 = ((l.drop 2).take 2, l.drop 4, 0) := by
      rw [tk_ok (by omega) (by rw [List.length_drop]; omega), show (2 : Int).toNat = 2 from rfl, List.drop_drop]
    rw [e1]
    simp only
    rw [rU16_eq (l.drop 2) 0 _ (by omega), e2]
    simp only [Option.bind_some, Err_eq, if_true]
    have hb := hn_bd l
    have e3 : num ((l.drop 2).take 2) = hn l := rfl
    rw [e3, w64 (by omega) (by omega)]
    have bad : ∀ b, param_Take.j0 (k + 3) (hn l - 4) true (mk (l.drop 4)) 0 b (⟨#[]⟩ : ByteArray) = some (0, mk [], mk (l.drop 4), 3) := by
      intro b
      simp only [param_Take.j0, if_true, Fail_eq, Option.bind_some]
      exact j1_err (l.drop 4) 3 _ _ _ _ (by omega) (by omega)
    by_cases c1 : hn l < 4 ∨ hn l > 1004
    · have hp : ptake l = (0, [], l.drop 4, 3) := by unfold ptake; rw [if_neg h4, if_pos c1]
      rw [hp]
      refine ⟨l.drop 4, ?_, fun h => by cases h⟩
      by_cases c2 : hn l - 4 < 0
      · rw [if_pos c2]
        exact bad _
      · rw [if_neg c2, decide_eq_true (show hn l - 4 > 1000 by omega)]
        exact bad _
    · rw [if_neg (by omega), decide_eq_false (show ¬ (hn l - 4 > 1000) by omega)]
      obtain ⟨m, hm⟩ : ∃ m : Nat, hn l - 4 = (m : Int) := Int.eq_ofNat_of_zero_le (by omega)
      have hm2 : (hn l - 4).toNat = m := by omega
      simp only [param_Take.j0, param_Take.j1]
      rw [if_neg (by decide), hm, Take_eq]
      by_cases c3 : (l.drop 4).length < m
      · have hp : ptake l = (0, [], l.drop 4, 2) := by unfold ptake; rw [if_neg h4, if_neg c1, hm2, if_pos (by omega)]
        rw [hp, tk_bad (by omega)]
        exact ⟨l.drop 4, rfl, fun h => by cases h⟩
      · rw [tk_ok (by omega) (by omega)]
        simp only [Option.bind_some, Err_eq, if_true, Pad_eq m (by omega), Left_eq, Int.toNat_natCast]
        by_cases c4 : (l.drop 4).length < m + fills m
        · have hp : ptake l = (0, [], l.drop 4, 2) := by unfold ptake; rw [if_neg h4, if_neg c1, hm2, if_pos c4]
          rw [hp, if_pos (by simp only [List.length_drop] at c3 c4 ⊢; omega), Fail_eq]
          simp only [Option.bind_some, if_true]
          rw [j2_eq _ _ _ _ _ _ (by omega) (by omega)]
          exact ⟨(l.drop 4).drop m, rfl, fun h => by cases h⟩
        · rw [if_neg (by simp only [List.length_drop] at c3 c4 ⊢; omega), j2_eq _ _ _ _ _ _ (by omega) (by omega)]
          have ef : fls ((l.drop 4).drop m) 0 m = fl ((l.drop 4).drop m) m := if_pos rfl
          rw [ef]
          by_cases c5 : zr (((l.drop 4).drop m).take (fills m)) = true
          · have hp : ptake l = (num (l.take 2), (l.drop 4).take m, ((l.drop 4).drop m).drop (fills m), 0) := by unfold ptake; rw [if_neg h4, if_neg c1, hm2, if_neg c4, if_pos c5]
            have e5 : fl ((l.drop 4).drop m) m = (((l.drop 4).drop m).drop (fills m), 0) := if_pos c5
            rw [hp, e5]
            exact ⟨_, rfl, fun _ => rfl⟩
          · have hp : ptake l = (0, [], l.drop 4, 4) := by unfold ptake; rw [if_neg h4, if_neg c1, hm2, if_neg c4, if_neg c5]
            have e5 : fl ((l.drop 4).drop m) m = (((l.drop 4).drop m).drop (fills m), 4) := if_neg c5
            rw [hp, e5]
            exact ⟨_, rfl, fun h => by cases h⟩
theorem fills4 (m : Nat) : fills (m + 4) = fills m := by unfold fills; omega
/-- May it be? -/
def Valid (x : It) : Prop := 0 ≤ x.1 ∧ x.1 < 65536 ∧ x.2.length ≤ 1000
instance (x : It) : Decidable (Valid x) := inferInstanceAs (Decidable (_ ∧ _ ∧ _))
/-- Its bytes. -/
def pbytes (x : It) : List UInt8 := fill (be 2 x.1 ++ be 2 ((x.2.length : Int) + 4) ++ x.2)
theorem pbytes_eq (x : It) : pbytes x = be 2 x.1 ++ (be 2 ((x.2.length : Int) + 4) ++ (x.2 ++ List.replicate (fills x.2.length) 0)) := by
  unfold pbytes fill
  have e : (be 2 x.1 ++ be 2 ((x.2.length : Int) + 4) ++ x.2).length = x.2.length + 4 := by simp [be_length]; omega
  rw [e, fills4]
  simp
theorem be2_length (n : Int) : (be 2 n).length = 2 := be_length 2 n
theorem num_be2 (n : Int) (h0 : 0 ≤ n) (h1 : n < 65536) : num (be 2 n) = n := by
  rw [num_be 2 n h0, show (256 : Int) ^ 2 = 65536 by decide, Int.emod_eq_of_lt h0 h1]
theorem zr_zeros (n : Nat) : zr (List.replicate n 0) = true := (zr_iff _).2 (by simp)
theorem ptake_put (x : It) (hx : Valid x) (t : List UInt8) : ptake (pbytes x ++ t) = (x.1, x.2, t, 0) := by
  obtain ⟨h0, h1, h2⟩ := hx
  have e : pbytes x ++ t = be 2 x.1 ++ (be 2 ((x.2.length : Int) + 4) ++ (x.2 ++ (List.replicate (fills x.2.length) 0 ++ t))) := by rw [pbytes_eq]; simp
  rw [e]
  have d2 : ∀ r, (be 2 x.1 ++ r).drop 2 = r := fun r => by
    have := List.drop_left (l₁ := be 2 x.1) (l₂ := r)
    rwa [be2_length] at this
  have d2' : ∀ r, (be 2 ((x.2.length : Int) + 4) ++ r).drop 2 = r := fun r => by
    have := List.drop_left (l₁ := be 2 ((x.2.length : Int) + 4)) (l₂ := r)
    rwa [be2_length] at this
  have t2 : ∀ r, (be 2 x.1 ++ r).take 2 = be 2 x.1 := fun r => by
    have := List.take_left (l₁ := be 2 x.1) (l₂ := r)
    rwa [be2_length] at this
  have t2' : ∀ r, (be 2 ((x.2.length : Int) + 4) ++ r).take 2 = be 2 ((x.2.length : Int) + 4) := fun r => by
    have := List.take_left (l₁ := be 2 ((x.2.length : Int) + 4)) (l₂ := r)
    rwa [be2_length] at this
  have hh : hn (be 2 x.1 ++ (be 2 ((x.2.length : Int) + 4) ++ (x.2 ++ (List.replicate (fills x.2.length) 0 ++ t)))) = (x.2.length : Int) + 4 := by
    unfold hn
    rw [d2, t2', num_be2 _ (by omega) (by omega)]
  have d4 : (be 2 x.1 ++ (be 2 ((x.2.length : Int) + 4) ++ (x.2 ++ (List.replicate (fills x.2.length) 0 ++ t)))).drop 4 = x.2 ++ (List.replicate (fills x.2.length) 0 ++ t) := by
    rw [show 4 = 2 + 2 from rfl, ← List.drop_drop, d2, d2']
  have hm : ((x.2.length : Int) + 4 - 4).toNat = x.2.length := by omega
  unfold ptake
  rw [hh, d4, hm, t2]
  rw [if_neg (by simp [be_length]; omega), if_neg (by omega), if_neg (by simp)]
  rw [List.drop_left, List.take_left]
  have e3 : (List.replicate (fills x.2.length) (0 : UInt8) ++ t).take (fills x.2.length) = List.replicate (fills x.2.length) 0 := by
    have := List.take_left (l₁ := List.replicate (fills x.2.length) (0 : UInt8)) (l₂ := t)
    rwa [List.length_replicate] at this
  have e4 : (List.replicate (fills x.2.length) (0 : UInt8) ++ t).drop (fills x.2.length) = t := by
    have := List.drop_left (l₁ := List.replicate (fills x.2.length) (0 : UInt8)) (l₂ := t)
    rwa [List.length_replicate] at this
  rw [e3, e4, if_pos (zr_zeros _), num_be2 _ h0 h1]
theorem ptake_bytes (l : List UInt8) (h : (ptake l).2.2.2 = 0) : l = pbytes ((ptake l).1, (ptake l).2.1) ++ (ptake l).2.2.1 ∧ Valid ((ptake l).1, (ptake l).2.1) := by
  have hb := hn_bd l
  have ht := num_take2 l
  by_cases c0 : l.length < 4
  · unfold ptake at h
    rw [if_pos c0] at h
    cases h
  · by_cases c1 : hn l < 4 ∨ hn l > 1004
    · unfold ptake at h
      rw [if_neg c0, if_pos c1] at h
      cases h
    · obtain ⟨m, hm⟩ : ∃ m : Nat, hn l - 4 = (m : Int) := Int.eq_ofNat_of_zero_le (by omega)
      have hm2 : (hn l - 4).toNat = m := by omega
      by_cases c4 : (l.drop 4).length < m + fills m
      · unfold ptake at h
        rw [if_neg c0, if_neg c1, hm2, if_pos c4] at h
        cases h
      · by_cases c5 : zr (((l.drop 4).drop m).take (fills m)) = true
        · have hp : ptake l = (num (l.take 2), (l.drop 4).take m, ((l.drop 4).drop m).drop (fills m), 0) := by unfold ptake; rw [if_neg c0, if_neg c1, hm2, if_neg c4, if_pos c5]
          rw [hp]
          have hlen : ((l.drop 4).take m).length = m := by rw [List.length_take]; omega
          refine ⟨?_, ?_⟩
          · rw [pbytes_eq]
            simp only [hlen]
            have f1 : be 2 (num (l.take 2)) = l.take 2 := by
              have := be_num (l.take 2)
              rwa [show (l.take 2).length = 2 by rw [List.length_take]; omega] at this
            have f2 : be 2 ((m : Int) + 4) = (l.drop 2).take 2 := by
              have := be_num ((l.drop 2).take 2)
              rw [show ((l.drop 2).take 2).length = 2 by rw [List.length_take, List.length_drop]; omega] at this
              rw [show (m : Int) + 4 = num ((l.drop 2).take 2) by show _ = hn l; omega]
              exact this
            have f3 : List.replicate (fills m) 0 = ((l.drop 4).drop m).take (fills m) := by
              have := (zr_iff _).1 c5
              rw [show (((l.drop 4).drop m).take (fills m)).length = fills m by simp only [List.length_take, List.length_drop] at c4 ⊢; omega] at this
              exact this.symm
            rw [f1, f2, f3, List.append_assoc, List.append_assoc, List.append_assoc, List.take_append_drop, List.take_append_drop]
            have f4 : (l.drop 2).take 2 ++ l.drop 4 = l.drop 2 := by
              have := List.take_append_drop 2 (l.drop 2)
              rwa [List.drop_drop] at this
            rw [f4, List.take_append_drop]
          · exact ⟨ht.1, ht.2, by show ((l.drop 4).take m).length ≤ 1000; omega⟩
        · unfold ptake at h
          rw [if_neg c0, if_neg c1, hm2, if_neg c4, if_neg c5] at h
          cases h
theorem May_eq (t : Int) (v : List UInt8) : param_May.f t (mk v) = some (decide (Valid (t, v))) := by
  unfold param_May.f Valid
  simp only [size_mk]
  by_cases h0 : t ≥ 0
  · rw [if_pos h0]
    by_cases h1 : t < 65536
    · rw [if_pos h1]
      congr 1
      apply decide_eq_decide.2
      omega
    · rw [if_neg h1]
      congr 1
      exact (decide_eq_false (by omega)).symm
  · rw [if_neg h0]
    congr 1
    exact (decide_eq_false (by omega)).symm
/-- Its bytes, or none. -/
def pput (x : It) : List UInt8 := if Valid x then pbytes x else []
theorem Put_p (t : Int) (v : List UInt8) : param_Put.f t (mk v) = some (mk (pput (t, v))) := by
  unfold param_Put.f
  rw [May_eq]
  simp only [Option.bind_some, decide_eq_true_eq, size_mk]
  unfold pput
  by_cases h : Valid (t, v)
  · have h' := h
    obtain ⟨h0, h1, h2⟩ := h'
    simp only at h0 h1 h2
    rw [if_pos h, if_pos h, w64 (by omega) (by omega), U16_eq, U16_eq]
    simp only [Option.bind_some, size_mk, be_length]
    rw [if_pos (by omega), if_pos (by omega), mk_append, mk_append, Filled_eq _ (by simp [be_length]; omega)]
    rfl
  · rw [if_neg h, if_neg h]
    rfl
theorem pput_length (x : It) : (pput x).length ≤ 1010 := by
  unfold pput
  split
  · rename_i h
    have := fills_le x.2.length
    obtain ⟨_, _, h2⟩ := h
    rw [pbytes_eq]
    simp only [List.length_append, List.length_replicate, be_length]
    omega
  · simp
theorem pput_valid {xs : List It} (h : ∀ x ∈ xs, Valid x) : xs.flatMap pput = xs.flatMap pbytes := by
  induction xs with
  | nil => rfl
  | cons x xs ih =>
    rw [List.flatMap_cons, List.flatMap_cons, ih (fun y hy => h y (by simp [hy]))]
    unfold pput
    rw [if_pos (h x (by simp))]
theorem num_be4 (n : Int) (h0 : 0 ≤ n) (h1 : n < 4294967296) : num (be 4 n) = n := by
  rw [num_be 4 n h0, show (256 : Int) ^ 4 = 4294967296 by decide, Int.emod_eq_of_lt h0 h1]
theorem num_take4 (v : List UInt8) : 0 ≤ num (v.take 4) ∧ num (v.take 4) < 4294967296 := by
  have h := num_bound (v.take 4)
  have : (256 : Int) ^ (v.take 4).length ≤ 256 ^ 4 := pow_le (by rw [List.length_take]; omega)
  have e : (256 : Int) ^ 4 = 4294967296 := by decide
  omega
/-- The first four bytes of a value, and what is behind them. -/
theorem tk4 (v : List UInt8) : tk v 0 4 = if 4 ≤ v.length then (v.take 4, v.drop 4, 0) else ([], v, 2) := by
  by_cases h : 4 ≤ v.length
  · rw [if_pos h, tk_ok (by omega) (by omega)]
    rfl
  · rw [if_neg h, tk_bad (by omega)]
    rfl
theorem kind_eq (t : Int) (v : List UInt8) (b : Int) (k : Nat) (hk : 10 ≤ k) : crosswaylaw04_kind.f k t (mk v) b = some (if 4 ≤ v.length then (num (v.take 4), decide ((v.length : Int) = b)) else (0, false)) := by
  unfold crosswaylaw04_kind.f
  have hb := num_take4 v
  rw [← rf_ok, rNum v 0 4 k (by omega) (by omega), tk4]
  simp only [Option.bind_some, rf_ok, size_mk]
  by_cases h : 4 ≤ v.length
  · rw [if_pos h, if_pos h]
    simp only [if_true]
    rw [Int.emod_eq_of_lt hb.1 hb.2]
    congr 2
  · rw [if_neg h, if_neg h]
    simp [num]
theorem AsAddr_eq (t : Int) (v : List UInt8) (k : Nat) (hk : 11 ≤ k) : param_AsAddr.f k t (mk v) = some (if t = 5 ∧ v.length = 4 then (num v, true) else (0, false)) := by
  obtain ⟨k, rfl⟩ : ∃ m, k = m + 1 := ⟨k - 1, by omega⟩
  unfold param_AsAddr.f
  simp only [param_AsAddr.j0, octet_New.f, Option.bind_some, rU32_eq v 0 k (by omega), size_mk]
  by_cases h1 : t = 5
  · subst h1
    by_cases h2 : v.length = 4
    · have e : v.take 4 = v := List.take_of_length_le (by omega)
      rw [tk4, if_pos (by omega), e]
      simp [h2]
    · have h3 : ¬ ((v.length : Int) = 4) := by omega
      simp [h2, h3]
  · simp [h1]
theorem pTake_bad (l : List UInt8) (e : Int) (he : e ≠ 0) (k : Nat) (hk : 20 ≤ k) : param_Take.f k (mk l) e = some (0, mk [], mk l, e) := by
  obtain ⟨k, rfl⟩ : ∃ m, k = m + 3 := ⟨k - 3, by omega⟩
  unfold param_Take.f
  have e1 : tk l e 2 = ([], l, e) := by
    rw [tk_bad (by omega), if_neg he]
  rw [rU16_eq l e _ (by omega), e1]
  simp only [Option.bind_some]
  rw [rU16_eq l e _ (by omega), e1]
  simp only [Option.bind_some, Err_eq, if_neg he, param_Take.j0, Bool.false_eq_true, if_false]
  exact j1_err l e _ _ _ _ he (by omega)
/-- Does a value say a number and an address? -/
def isReq (v : List UInt8) : Prop := v.length = 12 ∧ (v.take 8).drop 4 = [0, 5, 0, 8]
instance (v : List UInt8) : Decidable (isReq v) := inferInstanceAs (Decidable (_ ∧ _))
theorem be2_5 : be 2 5 = [0, 5] := by decide
theorem be2_8 : be 2 8 = [0, 8] := by decide
theorem addr_bytes (w : List UInt8) (hw : w.length = 4) : pbytes (5, w) = [0, 5, 0, 8] ++ w := by
  rw [pbytes_eq]
  simp only [hw]
  rw [show ((4 : Nat) : Int) + 4 = 8 by omega, be2_5, be2_8]
  simp [fills]
theorem req_iff (v : List UInt8) (h4 : 4 ≤ v.length) : isReq v ↔ ((ptake (v.drop 4)).2.2.2 = 0 ∧ (ptake (v.drop 4)).2.2.1 = [] ∧ (ptake (v.drop 4)).1 = 5 ∧ (ptake (v.drop 4)).2.1.length = 4) := by
  constructor
  · rintro ⟨h1, h2⟩
    have e : v.drop 4 = pbytes (5, v.drop 8) ++ [] := by
      rw [addr_bytes _ (by rw [List.length_drop]; omega), ← h2, List.append_nil]
      have := List.take_append_drop 4 (v.drop 4)
      rw [List.drop_drop] at this
      rw [List.drop_take]
      exact this.symm
    have hv : Valid (5, v.drop 8) := ⟨by show (0 : Int) ≤ 5; omega, by show (5 : Int) < 65536; omega, by show (v.drop 8).length ≤ 1000; rw [List.length_drop]; omega⟩
    rw [e, ptake_put _ hv]
    exact ⟨rfl, rfl, rfl, by show (v.drop 8).length = 4; rw [List.length_drop]; omega⟩
  · rintro ⟨h1, h2, h3, h5⟩
    obtain ⟨hb, _⟩ := ptake_bytes (v.drop 4) h1
    rw [h2, h3, addr_bytes _ h5, List.append_nil] at hb
    have hl := congrArg List.length hb
    simp only [List.length_drop, List.length_append, h5, List.length_cons, List.length_nil] at hl
    refine ⟨by omega, ?_⟩
    rw [List.drop_take, hb]
    rfl
theorem AsReq_j0 (t : Int) (v : List UInt8) (hv : v.length ≤ 1000) (k : Nat) (hk : 40 ≤ k) : ∃ a, param_AsRequest.j0 k false t (mk v) = some (if isReq v then (num (v.take 4), a, true) else (0, 0, false)) ∧ (isReq v → a = num (v.drop 8)) := by
  obtain ⟨k, rfl⟩ : ∃ m, k = m + 1 := ⟨k - 1, by omega⟩
  simp only [param_AsRequest.j0, octet_New.f, Option.bind_some, Bool.false_eq_true, if_false]
  rw [rU32_eq v 0 k (by omega), tk4]
  simp only [Option.bind_some]
  by_cases h : 4 ≤ v.length
  · rw [if_pos h]
    simp only
    obtain ⟨l', hT, hr⟩ := pTake_eq (v.drop 4) (by rw [List.length_drop]; omega) k (by omega)
    rw [hT]
    simp only [Option.bind_some, AsAddr_eq _ _ k (by omega)]
    obtain ⟨s, e', hE⟩ := End_eq l' (ptake (v.drop 4)).2.2.2 k (by omega)
    rw [hE]
    simp only [Option.bind_some]
    have hi := req_iff v h
    by_cases c : isReq v
    · obtain ⟨g1, g2, g3, g4⟩ := hi.1 c
      have hl' : l' = [] := by rw [hr g1, g2]
      refine ⟨num (ptake (v.drop 4)).2.1, ?_, fun _ => ?_⟩
      · rw [if_pos c]
        simp [g1, g3, g4, hl']
      · obtain ⟨hb, _⟩ := ptake_bytes (v.drop 4) g1
        rw [g2, g3, addr_bytes _ g4, List.append_nil] at hb
        have e8 : v.drop 8 = (v.drop 4).drop 4 := by rw [List.drop_drop]
        have e9 : (ptake (v.drop 4)).2.1 = v.drop 8 := by
          rw [e8]
          conv =>
            rhs
            rw [hb]
          rfl
        rw [e9]
    · refine ⟨0, ?_, fun hc => absurd hc c⟩
      rw [if_neg c]
      by_cases g1 : (ptake (v.drop 4)).2.2.2 = 0
      · by_cases g2 : l' = []
        · have g2' : (ptake (v.drop 4)).2.2.1 = [] := by rw [← hr g1, g2]
          have g3 : ¬ ((ptake (v.drop 4)).1 = 5 ∧ (ptake (v.drop 4)).2.1.length = 4) := fun hc => c (hi.2 ⟨g1, g2', hc.1, hc.2⟩)
          rw [if_neg g3]
          simp [g1, g2]
        · simp [g1, g2]
      · simp [g1]
  · rw [if_neg h]
    have c : ¬ isReq v := fun hc => by have := hc.1; omega
    refine ⟨0, ?_, fun hc => absurd hc c⟩
    simp only
    rw [if_neg c, pTake_bad v 2 (by omega) k (by omega)]
    simp only [Option.bind_some, AsAddr_eq _ _ k (by omega)]
    obtain ⟨s, e', hE⟩ := End_eq v 2 k (by omega)
    rw [hE]
    simp
def reqType (t : Int) : Prop := t = 49153 ∨ t = 49154 ∨ t = 49156
instance (t : Int) : Decidable (reqType t) := inferInstanceAs (Decidable (_ ∨ _ ∨ _))
theorem AsReq_eq (t : Int) (v : List UInt8) (hv : v.length ≤ 1000) (k : Nat) (hk : 40 ≤ k) : ∃ a, param_AsRequest.f k t (mk v) = some (if reqType t ∧ isReq v then (num (v.take 4), a, true) else (0, 0, false)) ∧ (isReq v → a = num (v.drop 8)) := by
  obtain ⟨a, h1, h2⟩ := AsReq_j0 t v hv k hk
  refine ⟨a, ?_, h2⟩
  unfold param_AsRequest.f
  by_cases g1 : t = 49153
  · rw [if_pos g1, h1]
    have : reqType t := .inl g1
    simp [this]
  · rw [if_neg g1]
    by_cases g2 : t = 49154
    · rw [if_pos g2, h1]
      have : reqType t := .inr (.inl g2)
      simp [this]
    · rw [if_neg g2]
      by_cases g3 : t = 49156
      · have e : (t != 49156) = false := by simp [g3]
        have : reqType t := .inr (.inr g3)
        rw [e, h1]
        simp [this]
      · have e : (t != 49156) = true := by simp [g3]
        have : ¬ reqType t := by unfold reqType; omega
        obtain ⟨k, rfl⟩ : ∃ m, k = m + 1 := ⟨k - 1, by omega⟩
        rw [e]
        simp [param_AsRequest.j0, this]
end Go.Proofs.Ytmdncojhnbbafaa.Pm
