/- Plain lemmas over the printed functions, for ParamAnswers. -/
import Derived.Test.YtmdncojhnbbafaaWWords
import Derived.Laws.BitsLemmas
import Derived.Test.YtmdncojhnbbafaaPAllx4
import Derived.Test.YtmdncojhnbbafaaPAllx9
import Derived.Test.YtmdncojhnbbafaaPAllx11
import Derived.Test.YtmdncojhnbbafaaPAllx13
import Derived.Test.YtmdncojhnbbafaaPAllx20
import Derived.Test.YtmdncojhnbbafaaPAllx17
import Derived.Test.YtmdncojhnbbafaaPAllx18
import Derived.Test.YtmdncojhnbbafaaPAllx19
import Derived.Test.YtmdncojhnbbafaaPAllx30
import Derived.Test.YtmdncojhnbbafaaPAllx31
namespace Go.Proofs.Ytmdncojhnbbafaa.Bt
open Go Go.RowKit Go.Proofs.YtmdncojhnbbafaaW.PrintWords
set_option linter.unusedVariables false
set_option linter.unusedSimpArgs false
/-- From the end. -/
theorem snoc_ind {α : Type} {P : List α → Prop} (h0 : P []) (h1 : ∀ l a, P l → P (l ++ [a])) (l : List α) : P l := by
  have key : ∀ (n : Nat) (l : List α), l.length = n → P l := by
    intro n
    induction n with
    | zero => intro l h; rw [List.length_eq_zero_iff.1 h]; exact h0
    | succ n ih =>
      intro l h
      have hne : l ≠ [] := by rintro rfl; simp at h
      rw [← List.dropLast_concat_getLast hne]
      exact h1 _ _ (ih _ (by rw [List.length_dropLast]; omega))
  exact key _ l rfl
/-- A string out of its bytes. -/
def mk (l : List UInt8) : ByteArray := ⟨l.toArray⟩
theorem mk_data (l : List UInt8) : (mk l).data.toList = l := by simp [mk]
theorem eq_mk (s : ByteArray) : s = mk s.data.toList := by cases s; simp [mk]
theorem mk_inj {a b : List UInt8} (h : mk a = mk b) : a = b := by
  have := congrArg (fun s : ByteArray => s.data.toList) h
  simpa [mk_data] using this
theorem size_mk (l : List UInt8) : (mk l).size = l.length := by
  show (mk l).data.size = _
  simp [mk]
theorem mk_nil : (⟨#[]⟩ : ByteArray) = mk [] := rfl
theorem mk_append (a b : List UInt8) : mk a ++ mk b = mk (a ++ b) := by
  apply ByteArray.ext
  rw [ByteArray.data_append]
  simp [mk]
theorem extract_mk (l : List UInt8) (i j : Nat) : (mk l).extract i j = mk ((l.take j).drop i) := by
  apply ByteArray.ext
  rw [ByteArray.data_extract]
  apply Array.ext'
  simp [mk, List.extract_eq_take_drop, List.drop_take]
theorem toList_loop (s : ByteArray) : ∀ (n i : Nat) (r : List UInt8), s.size - i = n → ByteArray.toList.loop s i r = r.reverse ++ s.data.toList.drop i := by
  have hsz : s.data.toList.length = s.size := by rw [Array.length_toList]; rfl
  intro n
  induction n with
  | zero =>
    intro i r h
    unfold ByteArray.toList.loop
    rw [if_neg (by omega), List.drop_of_length_le (by omega)]
    simp
  | succ n ih =>
    intro i r h
    unfold ByteArray.toList.loop
    rw [if_pos (by omega), ih (i + 1) _ (by omega)]
    have hlt : i < s.data.toList.length := by omega
    have e : s.data.toList.drop i = s.data.toList[i] :: s.data.toList.drop (i + 1) := List.drop_eq_getElem_cons hlt
    rw [e]
    have hg : s.get! i = s.data.toList[i] := by
      have hi : i < s.data.size := by simpa using hlt
      show s.data[i]! = _
      rw [getElem!_pos s.data i hi]
      simp
    simp [hg]
theorem toList_mk (l : List UInt8) : (mk l).toList = l := by
  unfold ByteArray.toList
  rw [toList_loop (mk l) _ 0 [] rfl, mk_data]
  simp
theorem bt_mk (l : List UInt8) (i : Int) : bt (mk l) i = ((l.getD i.toNat 0).toNat : Int) := by
  unfold bt
  by_cases h : i.toNat < l.length
  · rw [dif_pos (by rw [size_mk]; exact h)]
    have e : (mk l)[i.toNat]'(by rw [size_mk]; exact h) = l[i.toNat]'h := by
      show (mk l).data[i.toNat]'_ = _
      simp [mk]
    rw [e]
    simp [List.getD_eq_getElem?_getD, h]
  · rw [dif_neg (by rw [size_mk]; exact h)]
    simp [List.getD_eq_getElem?_getD, List.getElem?_eq_none (show l.length ≤ i.toNat by omega)]
/-- A number's lowest byte. -/
def b8 (n : Int) : UInt8 := UInt8.ofNat n.toNat
theorem strOfNums_mk (xs : List Int) : strOfNums xs = mk (xs.map b8) := rfl
theorem b8_toNat {n : Int} (h0 : 0 ≤ n) (h1 : n < 256) : ((b8 n).toNat : Int) = n := by
  unfold b8
  rw [UInt8.toNat_ofNat']
  omega
theorem b8_of (b : UInt8) : b8 (b.toNat : Int) = b := by
  unfold b8
  simp
/-- A number's bytes, the highest first. -/
def be : Nat → Int → List UInt8
  | 0, _ => []
  | b + 1, n => be b (n / 256) ++ [b8 (n % 256)]
theorem be_length (b : Nat) : ∀ n, (be b n).length = b := by
  induction b with
  | zero => intro n; rfl
  | succ b ih => intro n; simp [be, ih]
/-- What bytes say, the highest first. -/
def num (l : List UInt8) : Int := l.foldl (fun n b => n * 256 + (b.toNat : Int)) 0
theorem num_snoc (l : List UInt8) (b : UInt8) : num (l ++ [b]) = num l * 256 + (b.toNat : Int) := by simp [num, List.foldl_append]
theorem num_bound (l : List UInt8) : 0 ≤ num l ∧ num l < 256 ^ l.length := by
  induction l using snoc_ind with
  | h0 => simp [num]
  | h1 l b ih =>
    have hb := b.toNat_lt
    rw [num_snoc, List.length_append, List.length_singleton, Int.pow_succ]
    omega
theorem num_be (b : Nat) : ∀ n : Int, 0 ≤ n → num (be b n) = n % 256 ^ b := by
  induction b with
  | zero =>
    intro n h
    show 0 = n % 1
    omega
  | succ b ih =>
    intro n h
    have h2 : 0 ≤ n % 256 ∧ n % 256 < 256 := by omega
    rw [be, num_snoc, ih _ (by omega), b8_toNat h2.1 h2.2]
    have hp : (256 : Int) ^ b > 0 := Int.pow_pos (by omega)
    rw [Int.pow_succ]
    generalize (256 : Int) ^ b = p at hp
    have hq := Int.mul_ediv_add_emod n 256
    have hu := Int.mul_ediv_add_emod (n / 256) p
    have hu0 := Int.emod_nonneg (n / 256) (show p ≠ 0 by omega)
    have hu1 := Int.emod_lt_of_pos (n / 256) hp
    have e0 : p * 256 * (n / 256 / p) = 256 * (p * (n / 256 / p)) := by rw [Int.mul_comm p 256, Int.mul_assoc]
    have e : n = (n / 256 % p * 256 + n % 256) + p * 256 * (n / 256 / p) := by omega
    have e2 : n % (p * 256) = (n / 256 % p * 256 + n % 256) % (p * 256) := by
      conv =>
        lhs
        rw [e]
      rw [Int.add_mul_emod_self_left]
    rw [e2]
    exact (Int.emod_eq_of_lt (by omega) (by omega)).symm
theorem be_num (l : List UInt8) : be l.length (num l) = l := by
  induction l using snoc_ind with
  | h0 => rfl
  | h1 l b ih =>
    have hb := b.toNat_lt
    rw [List.length_append, List.length_singleton, be, num_snoc]
    have e1 : (num l * 256 + (b.toNat : Int)) / 256 = num l := by omega
    have e2 : (num l * 256 + (b.toNat : Int)) % 256 = (b.toNat : Int) := by omega
    rw [e1, e2, ih, b8_of]
end Go.Proofs.Ytmdncojhnbbafaa.Bt
namespace Go.Proofs.Ytmdncojhnbbafaa.Oc
open Go Go.RowKit Go.Proofs.YtmdncojhnbbafaaW.PrintWords Go.Proofs.Ytmdncojhnbbafaa.Bt Go.Proofs.Ytmdncojhnbbafaa.PAll
set_option linter.unusedVariables false
set_option linter.unusedSimpArgs false
theorem w64 {n : Int} (h0 : -9223372036854775808 ≤ n) (h1 : n ≤ 9223372036854775807) : wrap64 n = n := by unfold wrap64; omega
theorem wu64 (n : Int) : IntKind.u64.wrap n = n % 18446744073709551616 := by simp [IntKind.wrap, IntKind.bits, IntKind.signed]
theorem tdiv_pos {n m : Int} (h : 0 ≤ n) : Int.tdiv n m = n / m := Int.tdiv_eq_ediv_of_nonneg h
theorem tmod_pos {n m : Int} (h : 0 ≤ n) : Int.tmod n m = n % m := Int.tmod_eq_emod_of_nonneg h
theorem and_nat (k : IntKind) (x : Int) (m j : Nat) (hm : m = 2 ^ j - 1) (hj : j < k.bits) : ((BitVec.ofInt k.bits x &&& BitVec.ofInt k.bits (m : Int)).toNat : Int) = x % 2 ^ j := by
  subst hm
  have hp : 2 ^ j < 2 ^ k.bits := Nat.pow_lt_pow_right (by omega) hj
  have hp0 : 0 < 2 ^ j := Nat.two_pow_pos j
  rw [BitVec.toNat_and]
  have e1 : (BitVec.ofInt k.bits ((2 ^ j - 1 : Nat) : Int)).toNat = 2 ^ j - 1 := by
    rw [BitVec.ofInt_natCast, BitVec.toNat_ofNat]
    exact Nat.mod_eq_of_lt (by omega)
  rw [e1, Nat.and_two_pow_sub_one_eq_mod, BitVec.toNat_ofInt]
  have hz : (0 : Int) ≤ x % ((2 ^ k.bits : Nat) : Int) := Int.emod_nonneg _ (by have := Nat.two_pow_pos k.bits; omega)
  rw [Int.natCast_emod, Int.toNat_of_nonneg hz]
  have hd : ((2 ^ j : Nat) : Int) ∣ ((2 ^ k.bits : Nat) : Int) := Int.ofNat_dvd.2 (Nat.pow_dvd_pow 2 (by omega))
  rw [Int.emod_emod_of_dvd _ hd, Int.natCast_pow]
  rfl
/-- 'x & m', m one less than a power of two. -/
theorem and_i64 (x : Int) (m j : Nat) (hm : m = 2 ^ j - 1) (hj : j ≤ 62) : Go.bits .and .i64 x (m : Int) = x % 2 ^ j := by
  have h := and_nat .i64 x m j hm (by show j < 64; omega)
  unfold Go.bits
  simp only
  rw [h, IntKind.wrap_i64]
  have h0 : (0 : Int) < 2 ^ j := Int.pow_pos (by omega)
  have h1 : (2 : Int) ^ j ≤ 2 ^ 62 := by
    have := Nat.pow_le_pow_right (show 2 > 0 by omega) hj
    exact_mod_cast this
  have h2 : (2 : Int) ^ 62 = 4611686018427387904 := by decide
  have h3 := Int.emod_nonneg x (show (2 : Int) ^ j ≠ 0 by omega)
  have h4 := Int.emod_lt_of_pos x h0
  omega
theorem and_u64 (x : Int) (m j : Nat) (hm : m = 2 ^ j - 1) (hj : j ≤ 63) : Go.bits .and .u64 x (m : Int) = x % 2 ^ j := by
  have h := and_nat .u64 x m j hm (by show j < 64; omega)
  unfold Go.bits
  simp only
  rw [h, wu64]
  have h0 : (0 : Int) < 2 ^ j := Int.pow_pos (by omega)
  have h1 : (2 : Int) ^ j ≤ 2 ^ 63 := by
    have := Nat.pow_le_pow_right (show 2 > 0 by omega) hj
    exact_mod_cast this
  have h2 : (2 : Int) ^ 63 = 9223372036854775808 := by decide
  have h3 := Int.emod_nonneg x (show (2 : Int) ^ j ≠ 0 by omega)
  have h4 := Int.emod_lt_of_pos x h0
  omega
theorem and_u32 (x : Int) (m j : Nat) (hm : m = 2 ^ j - 1) (hj : j ≤ 31) : Go.bits .and .u32 x (m : Int) = x % 2 ^ j := by
  have h := and_nat .u32 x m j hm (by show j < 32; omega)
  unfold Go.bits
  simp only
  rw [h, IntKind.wrap_u32]
  have h0 : (0 : Int) < 2 ^ j := Int.pow_pos (by omega)
  have h1 : (2 : Int) ^ j ≤ 2 ^ 31 := by
    have := Nat.pow_le_pow_right (show 2 > 0 by omega) hj
    exact_mod_cast this
  have h2 : (2 : Int) ^ 31 = 2147483648 := by decide
  have h3 := Int.emod_nonneg x (show (2 : Int) ^ j ≠ 0 by omega)
  have h4 := Int.emod_lt_of_pos x h0
  omega
/-- 'x*256 | b' of a byte. -/
theorem or_byte (x b : Int) (hx0 : 0 ≤ x) (hx : x < 72057594037927936) (hb0 : 0 ≤ b) (hb : b < 256) : Go.bits .or .u64 (x * 256) b = x * 256 + b := by
  obtain ⟨X, rfl⟩ := Int.eq_ofNat_of_zero_le hx0
  obtain ⟨B, rfl⟩ := Int.eq_ofNat_of_zero_le hb0
  unfold Go.bits
  simp only
  have e1 : (BitVec.ofInt IntKind.u64.bits ((X : Int) * 256)).toNat = X * 256 := by
    rw [show ((X : Int) * 256) = ((X * 256 : Nat) : Int) by omega, BitVec.ofInt_natCast, BitVec.toNat_ofNat]
    exact Nat.mod_eq_of_lt (by show _ < 2 ^ 64; omega)
  have e2 : (BitVec.ofInt IntKind.u64.bits (B : Int)).toNat = B := by
    rw [BitVec.ofInt_natCast, BitVec.toNat_ofNat]
    exact Nat.mod_eq_of_lt (by show _ < 2 ^ 64; omega)
  rw [BitVec.toNat_or, e1, e2, wu64]
  have e3 : X * 256 ||| B = X * 256 + B := by
    have := Nat.two_pow_add_eq_or_of_lt (i := 8) (b := B) (by omega) X
    rw [Nat.mul_comm X 256]
    exact this.symm
  rw [e3]
  omega

theorem pow_le {a b : Nat} (h : a ≤ b) : (256 : Int) ^ a ≤ 256 ^ b := by
  have h2 : ((256 ^ a : Nat) : Int) ≤ ((256 ^ b : Nat) : Int) := Int.ofNat_le.2 (Nat.pow_le_pow_right (by omega) h)
  rw [Int.natCast_pow, Int.natCast_pow] at h2
  exact h2
theorem u64_bd {n : Int} (h : (Lit.int .u64 n).wf = true) : 0 ≤ n ∧ n < 18446744073709551616 := by
  simp [Lit.wf, IntKind.min, IntKind.max, IntKind.signed, IntKind.bits] at h
  omega
theorem u32_bd {n : Int} (h : (Lit.int .u32 n).wf = true) : 0 ≤ n ∧ n < 4294967296 := by
  simp [Lit.wf, IntKind.min, IntKind.max, IntKind.signed, IntKind.bits] at h
  omega
theorem i64_bd {n : Int} (h : (Lit.int .i64 n).wf = true) : -9223372036854775808 ≤ n ∧ n ≤ 9223372036854775807 := by
  simp only [Lit.wf, IntKind.min, IntKind.max, IntKind.signed, IntKind.bits, Bool.and_eq_true, decide_eq_true_eq, if_true] at h
  omega
theorem mn_nat (a b : Nat) : mn (a : Int) (b : Int) = ((min a b : Nat) : Int) := by
  unfold mn
  split <;> omega
theorem be2 (n : Int) : be 2 n = [b8 (n / 256 % 256), b8 (n % 256)] := rfl
theorem be4 (n : Int) : be 4 n = [b8 (n / 16777216 % 256), b8 (n / 65536 % 256), b8 (n / 256 % 256), b8 (n % 256)] := by
  have e1 : n / 256 / 256 = n / 65536 := by omega
  have e2 : n / 65536 / 256 = n / 16777216 := by omega
  simp [be, e1, e2]
theorem U16_eq (n : Int) : octet_U16.f n = some (mk (be 2 n)) := by
  rw [be2]
  rfl
theorem U32_eq (n : Int) : octet_U32.f n = some (mk (be 4 n)) := by
  rw [be4]
  rfl
theorem be4_mod (n : Int) : be 4 (n % 4294967296) = be 4 n := by
  rw [be4, be4]
  have e1 : n % 4294967296 / 16777216 % 256 = n / 16777216 % 256 := by omega
  have e2 : n % 4294967296 / 65536 % 256 = n / 65536 % 256 := by omega
  have e3 : n % 4294967296 / 256 % 256 = n / 256 % 256 := by omega
  have e4 : n % 4294967296 % 256 = n % 256 := by omega
  rw [e1, e2, e3, e4]
/-- So many bytes of those, with the first error: these, what is left, the error. -/
def tk (l : List UInt8) (e n : Int) : List UInt8 × List UInt8 × Int :=
  if e = 0 ∧ 0 ≤ n ∧ n ≤ l.length then (l.take n.toNat, l.drop n.toNat, 0) else ([], l, if e = 0 then 2 else e)
theorem Fail_eq (l : List UInt8) (e x : Int) : octet_Reader_Fail.f (mk l) e x = some (mk l, if e = 0 then x else e) := by
  unfold octet_Reader_Fail.f
  split <;> rfl
theorem tk_ok {l : List UInt8} {n : Int} (h0 : 0 ≤ n) (h1 : n ≤ l.length) : tk l 0 n = (l.take n.toNat, l.drop n.toNat, 0) := by
  unfold tk
  rw [if_pos ⟨rfl, h0, h1⟩]
theorem tk_bad {l : List UInt8} {e n : Int} (h : ¬ (e = 0 ∧ 0 ≤ n ∧ n ≤ l.length)) : tk l e n = ([], l, if e = 0 then 2 else e) := by
  unfold tk
  rw [if_neg h]
theorem Take_eq (l : List UInt8) (e n : Int) : octet_Reader_Take.f (mk l) e n = some (mk (tk l e n).1, mk (tk l e n).2.1, (tk l e n).2.2) := by
  unfold octet_Reader_Take.f octet_Reader_Err.f
  simp only [Option.bind_some, size_mk, Fail_eq]
  by_cases he : e = 0
  · subst he
    rw [if_pos rfl]
    by_cases h1 : n < 0
    · rw [if_pos h1, tk_bad (by omega)]
      rfl
    · rw [if_neg h1]
      by_cases h2 : n > (l.length : Int)
      · rw [if_pos h2, tk_bad (by omega)]
        rfl
      · rw [if_neg h2, if_pos (by omega), if_pos (by omega), tk_ok (by omega) (by omega), extract_mk, extract_mk]
        simp
  · rw [if_neg he, tk_bad (by omega)]
    simp [mk, if_neg he]
theorem number_l0 (l : List UInt8) (hl : l.length ≤ 8) (a : ByteArray) (b : Int) : ∀ (d k i : Nat), l.length - i = d → i ≤ l.length → d < k →
    octet_Reader_number.l0 k (num (l.take i)) (mk l) (l.length : Int) (i : Int) a b = some (num l, a, b) := by
  intro d
  induction d with
  | zero =>
    intro k i hd hi hk
    obtain ⟨k, rfl⟩ : ∃ m, k = m + 1 := ⟨k - 1, by omega⟩
    simp only [octet_Reader_number.l0]
    rw [if_neg (by omega), List.take_of_length_le (by omega)]
  | succ d ih =>
    intro k i hd hi hk
    obtain ⟨k, rfl⟩ : ∃ m, k = m + 1 := ⟨k - 1, by omega⟩
    have hlt : i < l.length := by omega
    simp only [octet_Reader_number.l0]
    rw [if_pos (by omega), if_pos (by omega), if_pos (by rw [size_mk]; omega), bt_mk]
    have hb := num_bound (l.take i)
    have hle : (256 : Int) ^ (l.take i).length ≤ 256 ^ 7 := pow_le (by rw [List.length_take]; omega)
    have h7 : (256 : Int) ^ 7 = 72057594037927936 := by decide
    have hg : (l.getD (i : Int).toNat 0) = l[i] := by simp [List.getD_eq_getElem?_getD, hlt]
    have hby := (l[i]).toNat_lt
    rw [hg, wu64, wu64, Int.emod_eq_of_lt (by omega) (by omega), Int.emod_eq_of_lt (by omega) (by omega), or_byte _ _ (by omega) (by omega) (by omega) (by omega), ← num_snoc, w64 (by omega) (by omega)]
    have e : l.take i ++ [l[i]] = l.take (i + 1) := by simp
    rw [e]
    exact ih k (i + 1) (by omega) (by omega) (by omega)
theorem number_eq (l : List UInt8) (e n : Int) (k : Nat) (hn : n ≤ 8) (hk : 9 ≤ k) : octet_Reader_number.f k (mk l) e n = some (num (tk l e n).1, mk (tk l e n).2.1, (tk l e n).2.2) := by
  unfold octet_Reader_number.f
  rw [Take_eq]
  simp only [Option.bind_some, size_mk]
  have hl : (tk l e n).1.length ≤ 8 := by
    unfold tk
    split
    · rw [List.length_take]; omega
    · simp
  have := number_l0 (tk l e n).1 hl (mk (tk l e n).2.1) (tk l e n).2.2 (tk l e n).1.length k 0 (by omega) (by omega) (by omega)
  simpa [num] using this
theorem num_tk (l : List UInt8) (e n : Int) (b : Nat) (hb : n = b) : 0 ≤ num (tk l e n).1 ∧ num (tk l e n).1 < 256 ^ b := by
  have h := num_bound (tk l e n).1
  refine ⟨h.1, Int.lt_of_lt_of_le h.2 (pow_le ?_)⟩
  unfold tk
  split
  · rw [List.length_take]; omega
  · simp
theorem rU16_eq (l : List UInt8) (e : Int) (k : Nat) (hk : 9 ≤ k) : octet_Reader_U16.f k (mk l) e = some (num (tk l e 2).1, mk (tk l e 2).2.1, (tk l e 2).2.2) := by
  unfold octet_Reader_U16.f
  rw [number_eq l e 2 k (by omega) hk]
  have := num_tk l e 2 2 rfl
  simp only [Option.bind_some]
  rw [w64 (by omega) (by omega)]
theorem rU32_eq (l : List UInt8) (e : Int) (k : Nat) (hk : 9 ≤ k) : octet_Reader_U32.f k (mk l) e = some (num (tk l e 4).1, mk (tk l e 4).2.1, (tk l e 4).2.2) := by
  unfold octet_Reader_U32.f
  rw [number_eq l e 4 k (by omega) hk]
  have := num_tk l e 4 4 rfl
  simp only [Option.bind_some]
  rw [Int.emod_eq_of_lt (by omega) (by omega)]
theorem Err_eq (s : ByteArray) (e : Int) : octet_Reader_Err.f s e = some (e, s, e) := rfl
theorem Left_eq (l : List UInt8) (e : Int) : octet_Reader_Left.f (mk l) e = some (if e = 0 then (l.length : Int) else 0, mk l, e) := by
  unfold octet_Reader_Left.f octet_Reader_Err.f
  simp only [Option.bind_some, size_mk]
  split <;> rfl
end Go.Proofs.Ytmdncojhnbbafaa.Oc
namespace Go.Proofs.Ytmdncojhnbbafaa.Rd
open Go Go.RowKit Go.Proofs.YtmdncojhnbbafaaW.PrintWords Go.Proofs.Ytmdncojhnbbafaa.Bt Go.Proofs.Ytmdncojhnbbafaa.PAll Go.Proofs.Ytmdncojhnbbafaa.Oc
set_option linter.unusedVariables false
set_option linter.unusedSimpArgs false
/-- What the document's reader has left. -/
def rf (l : List UInt8) (e : Int) : ByteArray := mk (if e = 0 then l else [])
theorem rf_ok (l : List UInt8) : rf l 0 = mk l := rfl
theorem rf_bad (l : List UInt8) {e : Int} (h : e ≠ 0) : rf l e = mk [] := by unfold rf; rw [if_neg h]
theorem rf_size (l : List UInt8) (e : Int) : ((rf l e).size : Int) = if e = 0 then (l.length : Int) else 0 := by
  unfold rf
  rw [size_mk]
  split <;> rfl
theorem rFail (l : List UInt8) (e x : Int) (hx : x ≠ 0) : crosswayref03_R_Fail.f (rf l e) e x = some (rf l (if e = 0 then x else e), if e = 0 then x else e) := by
  unfold crosswayref03_R_Fail.f
  by_cases h : e = 0
  · subst h
    rw [if_pos rfl, if_pos rfl, rf_bad l hx]
    rfl
  · rw [if_neg h, if_neg h]
theorem rTake (l : List UInt8) (e n : Int) : crosswayref03_R_Take.f (rf l e) e n = some (rf (tk l e n).2.1 (tk l e n).2.2, (tk l e n).2.2, mk (tk l e n).1) := by
  unfold crosswayref03_R_Take.f
  by_cases he : e = 0
  · subst he
    rw [if_pos rfl, rf_ok, size_mk]
    have hf : crosswayref03_R_Fail.f (mk l) 0 2 = some (mk [], 2) := rFail l 0 2 (by omega)
    by_cases h1 : n < 0
    · rw [if_pos h1, hf, tk_bad (by omega)]
      rfl
    · rw [if_neg h1]
      by_cases h2 : n > (l.length : Int)
      · rw [if_pos h2, hf, tk_bad (by omega)]
        rfl
      · rw [if_neg h2, if_pos (by omega), if_pos (by omega), tk_ok (by omega) (by omega), extract_mk, extract_mk]
        simp [rf]
  · rw [if_neg he, tk_bad (by omega)]
    simp only [if_neg he]
    rfl
theorem num_l0 (l : List UInt8) (hl : l.length ≤ 8) (a : ByteArray) (b : Int) : ∀ (d k i : Nat), l.length - i = d → i ≤ l.length → d < k →
    crosswayref03_R_Num.l0 k (mk l) (num (l.take i)) (i : Int) a b = some (a, b, num l) := by
  intro d
  induction d with
  | zero =>
    intro k i hd hi hk
    obtain ⟨k, rfl⟩ : ∃ m, k = m + 1 := ⟨k - 1, by omega⟩
    simp only [crosswayref03_R_Num.l0]
    rw [size_mk, if_neg (by omega), List.take_of_length_le (by omega)]
  | succ d ih =>
    intro k i hd hi hk
    obtain ⟨k, rfl⟩ : ∃ m, k = m + 1 := ⟨k - 1, by omega⟩
    have hlt : i < l.length := by omega
    simp only [crosswayref03_R_Num.l0]
    rw [size_mk, if_pos (by omega), if_pos (by omega), bt_mk]
    have hb := num_bound (l.take i)
    have hle : (256 : Int) ^ (l.take i).length ≤ 256 ^ 7 := pow_le (by rw [List.length_take]; omega)
    have h7 : (256 : Int) ^ 7 = 72057594037927936 := by decide
    have hg : (l.getD (i : Int).toNat 0) = l[i] := by simp [List.getD_eq_getElem?_getD, hlt]
    have hby := (l[i]).toNat_lt
    rw [hg, wu64, wu64, wu64, Int.emod_eq_of_lt (show 0 ≤ num (l.take i) * 256 by omega) (by omega), Int.emod_eq_of_lt (show (0 : Int) ≤ (l[i].toNat : Int) by omega) (by omega), Int.emod_eq_of_lt (by omega) (by omega), ← num_snoc, w64 (by omega) (by omega)]
    have e : l.take i ++ [l[i]] = l.take (i + 1) := by simp
    rw [e]
    exact ih k (i + 1) (by omega) (by omega) (by omega)
theorem rNum (l : List UInt8) (e n : Int) (k : Nat) (hn : n ≤ 8) (hk : 9 ≤ k) : crosswayref03_R_Num.f k (rf l e) e n = some (rf (tk l e n).2.1 (tk l e n).2.2, (tk l e n).2.2, num (tk l e n).1) := by
  unfold crosswayref03_R_Num.f
  rw [rTake]
  simp only [Option.bind_some]
  have hl : (tk l e n).1.length ≤ 8 := by
    unfold tk
    split
    · rw [List.length_take]; omega
    · simp
  have := num_l0 (tk l e n).1 hl (rf (tk l e n).2.1 (tk l e n).2.2) (tk l e n).2.2 (tk l e n).1.length k 0 (by omega) (by omega) (by omega)
  simpa [num] using this
end Go.Proofs.Ytmdncojhnbbafaa.Rd
namespace Go.Proofs.Ytmdncojhnbbafaa.Pm
open Go Go.RowKit Go.Proofs.YtmdncojhnbbafaaW.PrintWords Go.Proofs.Ytmdncojhnbbafaa.Bt Go.Proofs.Ytmdncojhnbbafaa.PAll Go.Proofs.Ytmdncojhnbbafaa.Oc Go.Proofs.Ytmdncojhnbbafaa.Rd
set_option linter.unusedVariables false
set_option linter.unusedSimpArgs false
theorem num_be4 (n : Int) (h0 : 0 ≤ n) (h1 : n < 4294967296) : num (be 4 n) = n := by
  rw [num_be 4 n h0, show (256 : Int) ^ 4 = 4294967296 by decide, Int.emod_eq_of_lt h0 h1]
theorem num_take4 (v : List UInt8) : 0 ≤ num (v.take 4) ∧ num (v.take 4) < 4294967296 := by
  have h := num_bound (v.take 4)
  have : (256 : Int) ^ (v.take 4).length ≤ 256 ^ 4 := pow_le (by rw [List.length_take]; omega)
  have e : (256 : Int) ^ 4 = 4294967296 := by decide
  omega
/-- The first four bytes of a value, and what is behind them. -/
theorem tk4 (v : List UInt8) : tk v 0 4 = if 4 ≤ v.length then (v.take 4, v.drop 4, 0) else ([], v, 2) := by
  by_cases h : 4 ≤ v.length
  · rw [if_pos h, tk_ok (by omega) (by omega)]
    rfl
  · rw [if_neg h, tk_bad (by omega)]
    rfl
theorem AsAnswer_eq (t : Int) (v : List UInt8) (k : Nat) (hk : 10 ≤ k) : param_AsAnswer.f k t (mk v) = some (
    if t = 49157 ∧ v.length = 4 then (num (v.take 4), true, true) else if t = 49155 ∧ v.length > 4 then (num (v.take 4), false, true) else (0, false, false)) := by
  obtain ⟨k, rfl⟩ : ∃ m, k = m + 1 := ⟨k - 1, by omega⟩
  unfold param_AsAnswer.f octet_New.f
  simp only [Option.bind_some, rU32_eq v 0 (k + 1) (by omega), Err_eq]
  rw [tk4]
  by_cases h : 4 ≤ v.length
  · rw [if_pos h]
    simp only [if_true, Left_eq, Option.bind_some, param_AsAnswer.j0, List.length_drop]
    by_cases h1 : t = 49157
    · subst h1
      by_cases h2 : v.length = 4
      · simp [h2]
      · have h3 : ¬ (v.length - 4 = 0) := by omega
        simp [h2, h3]
    · by_cases h2 : t = 49155
      · subst h2
        by_cases h3 : v.length > 4
        · have h4 : ¬ (v.length - 4 = 0) := by omega
          simp [h3, h4]
        · have h4 : v.length - 4 = 0 := by omega
          simp [h3, h4]
      · simp [h1, h2]
  · rw [if_neg h]
    have h1 : ¬ (v.length = 4) := by omega
    have h2 : ¬ (v.length > 4) := by omega
    simp [h1, h2]
theorem kind_eq (t : Int) (v : List UInt8) (b : Int) (k : Nat) (hk : 10 ≤ k) : crosswaylaw04_kind.f k t (mk v) b = some (if 4 ≤ v.length then (num (v.take 4), decide ((v.length : Int) = b)) else (0, false)) := by
  unfold crosswaylaw04_kind.f
  have hb := num_take4 v
  rw [← rf_ok, rNum v 0 4 k (by omega) (by omega), tk4]
  simp only [Option.bind_some, rf_ok, size_mk]
  by_cases h : 4 ≤ v.length
  · rw [if_pos h, if_pos h]
    simp only [if_true]
    rw [Int.emod_eq_of_lt hb.1 hb.2]
    congr 2
  · rw [if_neg h, if_neg h]
    simp [num]
end Go.Proofs.Ytmdncojhnbbafaa.Pm
