/- Plain lemmas over the printed functions, for CauseReads. -/
import Derived.Test.YtmdncojhnbbafaaWWords
import Derived.Laws.BitsLemmas
import Derived.Test.YtmdncojhnbbafaaPAllx5
import Derived.Test.YtmdncojhnbbafaaPAllx11
import Derived.Test.YtmdncojhnbbafaaPAllx13
import Derived.Test.YtmdncojhnbbafaaPAllx20
import Derived.Test.YtmdncojhnbbafaaPAllx17
import Derived.Test.YtmdncojhnbbafaaPAllx18
import Derived.Test.YtmdncojhnbbafaaPAllx19
import Derived.Test.YtmdncojhnbbafaaPAllx21
import Derived.Test.YtmdncojhnbbafaaPAllx22
import Derived.Test.YtmdncojhnbbafaaPAllx33
import Derived.Test.YtmdncojhnbbafaaPAllx40
import Derived.Test.YtmdncojhnbbafaaPAllx34
import Derived.Test.YtmdncojhnbbafaaPAllx41
import Derived.Test.YtmdncojhnbbafaaPAllx38
namespace Go.Proofs.Ytmdncojhnbbafaa.Bt
open Go Go.RowKit Go.Proofs.YtmdncojhnbbafaaW.PrintWords
set_option linter.unusedVariables false
set_option linter.unusedSimpArgs false
/-- From the end. -/
theorem snoc_ind {α : Type} {P : List α → Prop} (h0 : P []) (h1 : ∀ l a, P l → P (l ++ [a])) (l : List α) : P l := by
  have key : ∀ (n : Nat) (l : List α), l.length = n → P l := by
    intro n
    induction n with
    | zero => intro l h; rw [List.length_eq_zero_iff.1 h]; exact h0
    | succ n ih =>
      intro l h
      have hne : l ≠ [] := by rintro rfl; simp at h
      rw [← List.dropLast_concat_getLast hne]
      exact h1 _ _ (ih _ (by rw [List.length_dropLast]; omega))
  exact key _ l rfl
/-- A string out of its bytes. -/
def mk (l : List UInt8) : ByteArray := ⟨l.toArray⟩
theorem mk_data (l : List UInt8) : (mk l).data.toList = l := by simp [mk]
theorem eq_mk (s : ByteArray) : s = mk s.data.toList := by cases s; simp [mk]
theorem mk_inj {a b : List UInt8} (h : mk a = mk b) : a = b := by
  have := congrArg (fun s : ByteArray => s.data.toList) h
  simpa [mk_data] using this
theorem size_mk (l : List UInt8) : (mk l).size = l.length := by
  show (mk l).data.size = _
  simp [mk]
theorem mk_nil : (⟨#[]⟩ : ByteArray) = mk [] := rfl
theorem mk_append (a b : List UInt8) : mk a ++ mk b = mk (a ++ b) := by
  apply ByteArray.ext
  rw [ByteArray.data_append]
  simp [mk]
theorem extract_mk (l : List UInt8) (i j : Nat) : (mk l).extract i j = mk ((l.take j).drop i) := by
  apply ByteArray.ext
  rw [ByteArray.data_extract]
  apply Array.ext'
  simp [mk, List.extract_eq_take_drop, List.drop_take]
theorem toList_loop (s : ByteArray) : ∀ (n i : Nat) (r : List UInt8), s.size - i = n → ByteArray.toList.loop s i r = r.reverse ++ s.data.toList.drop i := by
  have hsz : s.data.toList.length = s.size := by rw [Array.length_toList]; rfl
  intro n
  induction n with
  | zero =>
    intro i r h
    unfold ByteArray.toList.loop
    rw [if_neg (by omega), List.drop_of_length_le (by omega)]
    simp
  | succ n ih =>
    intro i r h
    unfold ByteArray.toList.loop
    rw [if_pos (by omega), ih (i + 1) _ (by omega)]
    have hlt : i < s.data.toList.length := by omega
    have e : s.data.toList.drop i = s.data.toList[i] :: s.data.toList.drop (i + 1) := List.drop_eq_getElem_cons hlt
    rw [e]
    have hg : s.get! i = s.data.toList[i] := by
      have hi : i < s.data.size := by simpa using hlt
      show s.data[i]! = _
      rw [getElem!_pos s.data i hi]
      simp
    simp [hg]
theorem toList_mk (l : List UInt8) : (mk l).toList = l := by
  unfold ByteArray.toList
  rw [toList_loop (mk l) _ 0 [] rfl, mk_data]
  simp
theorem bt_mk (l : List UInt8) (i : Int) : bt (mk l) i = ((l.getD i.toNat 0).toNat : Int) := by
  unfold bt
  by_cases h : i.toNat < l.length
  · rw [dif_pos (by rw [size_mk]; exact h)]
    have e : (mk l)[i.toNat]'(by rw [size_mk]; exact h) = l[i.toNat]'h := by
      show (mk l).data[i.toNat]'_ = _
      simp [mk]
    rw [e]
    simp [List.getD_eq_getElem?_getD, h]
  · rw [dif_neg (by rw [size_mk]; exact h)]
    simp [List.getD_eq_getElem?_getD, List.getElem?_eq_none (show l.length ≤ i.toNat by omega)]
/-- A number's lowest byte. -/
def b8 (n : Int) : UInt8 := UInt8.ofNat n.toNat
theorem strOfNums_mk (xs : List Int) : strOfNums xs = mk (xs.map b8) := rfl
theorem b8_toNat {n : Int} (h0 : 0 ≤ n) (h1 : n < 256) : ((b8 n).toNat : Int) = n := by
  unfold b8
  rw [UInt8.toNat_ofNat']
  omega
theorem b8_of (b : UInt8) : b8 (b.toNat : Int) = b := by
  unfold b8
  simp
/-- A number's bytes, the highest first. -/
def be : Nat → Int → List UInt8
  | 0, _ => []
  | b + 1, n => be b (n / 256) ++ [b8 (n % 256)]
theorem be_length (b : Nat) : ∀ n, (be b n).length = b := by
  induction b with
  | zero => intro n; rfl
  | succ b ih => intro n; simp [be, ih]
/-- What bytes say, the highest first. -/
def num (l : List UInt8) : Int := l.foldl (fun n b => n * 256 + (b.toNat : Int)) 0
theorem num_snoc (l : List UInt8) (b : UInt8) : num (l ++ [b]) = num l * 256 + (b.toNat : Int) := by simp [num, List.foldl_append]
theorem num_bound (l : List UInt8) : 0 ≤ num l ∧ num l < 256 ^ l.length := by
  induction l using snoc_ind with
  | h0 => simp [num]
  | h1 l b ih =>
    have hb := b.toNat_lt
    rw [num_snoc, List.length_append, List.length_singleton, Int.pow_succ]
    omega
theorem num_be (b : Nat) : ∀ n : Int, 0 ≤ n → num (be b n) = n % 256 ^ b := by
  induction b with
  | zero =>
    intro n h
    show 0 = n % 1
    omega
  | succ b ih =>
    intro n h
    have h2 : 0 ≤ n % 256 ∧ n % 256 < 256 := by omega
    rw [be, num_snoc, ih _ (by omega), b8_toNat h2.1 h2.2]
    have hp : (256 : Int) ^ b > 0 := Int.pow_pos (by omega)
    rw [Int.pow_succ]
    generalize (256 : Int) ^ b = p at hp
    have hq := Int.mul_ediv_add_emod n 256
    have hu := Int.mul_ediv_add_emod (n / 256) p
    have hu0 := Int.emod_nonneg (n / 256) (show p ≠ 0 by omega)
    have hu1 := Int.emod_lt_of_pos (n / 256) hp
    have e0 : p * 256 * (n / 256 / p) = 256 * (p * (n / 256 / p)) := by rw [Int.mul_comm p 256, Int.mul_assoc]
    have e : n = (n / 256 % p * 256 + n % 256) + p * 256 * (n / 256 / p) := by omega
    have e2 : n % (p * 256) = (n / 256 % p * 256 + n % 256) % (p * 256) := by
      conv =>
        lhs
        rw [e]
      rw [Int.add_mul_emod_self_left]
    rw [e2]
    exact (Int.emod_eq_of_lt (by omega) (by omega)).symm
theorem be_num (l : List UInt8) : be l.length (num l) = l := by
  induction l using snoc_ind with
  | h0 => rfl
  | h1 l b ih =>
    have hb := b.toNat_lt
    rw [List.length_append, List.length_singleton, be, num_snoc]
    have e1 : (num l * 256 + (b.toNat : Int)) / 256 = num l := by omega
    have e2 : (num l * 256 + (b.toNat : Int)) % 256 = (b.toNat : Int) := by omega
    rw [e1, e2, ih, b8_of]
end Go.Proofs.Ytmdncojhnbbafaa.Bt
namespace Go.Proofs.Ytmdncojhnbbafaa.Oc
open Go Go.RowKit Go.Proofs.YtmdncojhnbbafaaW.PrintWords Go.Proofs.Ytmdncojhnbbafaa.Bt Go.Proofs.Ytmdncojhnbbafaa.PAll
set_option linter.unusedVariables false
set_option linter.unusedSimpArgs false
theorem w64 {n : Int} (h0 : -9223372036854775808 ≤ n) (h1 : n ≤ 9223372036854775807) : wrap64 n = n := by unfold wrap64; omega
theorem wu64 (n : Int) : IntKind.u64.wrap n = n % 18446744073709551616 := by simp [IntKind.wrap, IntKind.bits, IntKind.signed]
theorem tdiv_pos {n m : Int} (h : 0 ≤ n) : Int.tdiv n m = n / m := Int.tdiv_eq_ediv_of_nonneg h
theorem tmod_pos {n m : Int} (h : 0 ≤ n) : Int.tmod n m = n % m := Int.tmod_eq_emod_of_nonneg h
theorem and_nat (k : IntKind) (x : Int) (m j : Nat) (hm : m = 2 ^ j - 1) (hj : j < k.bits) : ((BitVec.ofInt k.bits x &&& BitVec.ofInt k.bits (m : Int)).toNat : Int) = x % 2 ^ j := by
  subst hm
  have hp : 2 ^ j < 2 ^ k.bits := Nat.pow_lt_pow_right (by omega) hj
  have hp0 : 0 < 2 ^ j := Nat.two_pow_pos j
  rw [BitVec.toNat_and]
  have e1 : (BitVec.ofInt k.bits ((2 ^ j - 1 : Nat) : Int)).toNat = 2 ^ j - 1 := by
    rw [BitVec.ofInt_natCast, BitVec.toNat_ofNat]
    exact Nat.mod_eq_of_lt (by omega)
  rw [e1, Nat.and_two_pow_sub_one_eq_mod, BitVec.toNat_ofInt]
  have hz : (0 : Int) ≤ x % ((2 ^ k.bits : Nat) : Int) := Int.emod_nonneg _ (by have := Nat.two_pow_pos k.bits; omega)
  rw [Int.natCast_emod, Int.toNat_of_nonneg hz]
  have hd : ((2 ^ j : Nat) : Int) ∣ ((2 ^ k.bits : Nat) : Int) := Int.ofNat_dvd.2 (Nat.pow_dvd_pow 2 (by omega))
  rw [Int.emod_emod_of_dvd _ hd, Int.natCast_pow]
  rfl
/-- 'x & m', m one less than a power of two. -/
theorem and_i64 (x : Int) (m j : Nat) (hm : m = 2 ^ j - 1) (hj : j ≤ 62) : Go.bits .and .i64 x (m : Int) = x % 2 ^ j := by
  have h := and_nat .i64 x m j hm (by show j < 64; omega)
  unfold Go.bits
  simp only
  rw [h, IntKind.wrap_i64]
  have h0 : (0 : Int) < 2 ^ j := Int.pow_pos (by omega)
  have h1 : (2 : Int) ^ j ≤ 2 ^ 62 := by
    have := Nat.pow_le_pow_right (show 2 > 0 by omega) hj
    exact_mod_cast this
  have h2 : (2 : Int) ^ 62 = 4611686018427387904 := by decide
  have h3 := Int.emod_nonneg x (show (2 : Int) ^ j ≠ 0 by omega)
  have h4 := Int.emod_lt_of_pos x h0
  omega
theorem and_u64 (x : Int) (m j : Nat) (hm : m = 2 ^ j - 1) (hj : j ≤ 63) : Go.bits .and .u64 x (m : Int) = x % 2 ^ j := by
  have h := and_nat .u64 x m j hm (by show j < 64; omega)
  unfold Go.bits
  simp only
  rw [h, wu64]
  have h0 : (0 : Int) < 2 ^ j := Int.pow_pos (by omega)
  have h1 : (2 : Int) ^ j ≤ 2 ^ 63 := by
    have := Nat.pow_le_pow_right (show 2 > 0 by omega) hj
    exact_mod_cast this
  have h2 : (2 : Int) ^ 63 = 9223372036854775808 := by decide
  have h3 := Int.emod_nonneg x (show (2 : Int) ^ j ≠ 0 by omega)
  have h4 := Int.emod_lt_of_pos x h0
  omega
theorem and_u32 (x : Int) (m j : Nat) (hm : m = 2 ^ j - 1) (hj : j ≤ 31) : Go.bits .and .u32 x (m : Int) = x % 2 ^ j := by
  have h := and_nat .u32 x m j hm (by show j < 32; omega)
  unfold Go.bits
  simp only
  rw [h, IntKind.wrap_u32]
  have h0 : (0 : Int) < 2 ^ j := Int.pow_pos (by omega)
  have h1 : (2 : Int) ^ j ≤ 2 ^ 31 := by
    have := Nat.pow_le_pow_right (show 2 > 0 by omega) hj
    exact_mod_cast this
  have h2 : (2 : Int) ^ 31 = 2147483648 := by decide
  have h3 := Int.emod_nonneg x (show (2 : Int) ^ j ≠ 0 by omega)
  have h4 := Int.emod_lt_of_pos x h0
  omega
/-- 'x*256 | b' of a byte. -/
theorem or_byte (x b : Int) (hx0 : 0 ≤ x) (hx : x < 72057594037927936) (hb0 : 0 ≤ b) (hb : b < 256) : Go.bits .or .u64 (x * 256) b = x * 256 + b := by
  obtain ⟨X, rfl⟩ := Int.eq_ofNat_of_zero_le hx0
  obtain ⟨B, rfl⟩ := Int.eq_ofNat_of_zero_le hb0
  unfold Go.bits
  simp only
  have e1 : (BitVec.ofInt IntKind.u64.bits ((X : Int) * 256)).toNat = X * 256 := by
    rw [show ((X : Int) * 256) = ((X * 256 : Nat) : Int) by omega, BitVec.ofInt_natCast, BitVec.toNat_ofNat]
    exact Nat.mod_eq_of_lt (by show _ < 2 ^ 64; omega)
  have e2 : (BitVec.ofInt IntKind.u64.bits (B : Int)).toNat = B := by
    rw [BitVec.ofInt_natCast, BitVec.toNat_ofNat]
    exact Nat.mod_eq_of_lt (by show _ < 2 ^ 64; omega)
  rw [BitVec.toNat_or, e1, e2, wu64]
  have e3 : X * 256 ||| B = X * 256 + B := by
    have := Nat.two_pow_add_eq_or_of_lt (i := 8) (b := B) (by omega) X
    rw [Nat.mul_comm X 256]
    exact this.symm
  rw [e3]
  omega

theorem pow_le {a b : Nat} (h : a ≤ b) : (256 : Int) ^ a ≤ 256 ^ b := by
  have h2 : ((256 ^ a : Nat) : Int) ≤ ((256 ^ b : Nat) : Int) := Int.ofNat_le.2 (Nat.pow_le_pow_right (by omega) h)
  rw [Int.natCast_pow, Int.natCast_pow] at h2
  exact h2
theorem u64_bd {n : Int} (h : (Lit.int .u64 n).wf = true) : 0 ≤ n ∧ n < 18446744073709551616 := by
  simp [Lit.wf, IntKind.min, IntKind.max, IntKind.signed, IntKind.bits] at h
  omega
theorem u32_bd {n : Int} (h : (Lit.int .u32 n).wf = true) : 0 ≤ n ∧ n < 4294967296 := by
  simp [Lit.wf, IntKind.min, IntKind.max, IntKind.signed, IntKind.bits] at h
  omega
theorem i64_bd {n : Int} (h : (Lit.int .i64 n).wf = true) : -9223372036854775808 ≤ n ∧ n ≤ 9223372036854775807 := by
  simp only [Lit.wf, IntKind.min, IntKind.max, IntKind.signed, IntKind.bits, Bool.and_eq_true, decide_eq_true_eq, if_true] at h
  omega
theorem mn_nat (a b : Nat) : mn (a : Int) (b : Int) = ((min a b : Nat) : Int) := by
  unfold mn
  split <;> omega
def fills (n : Nat) : Nat := (4 - n % 4) % 4
def fill (l : List UInt8) : List UInt8 := l ++ List.replicate (fills l.length) 0
theorem Pad_eq (n : Nat) (h : n < 4611686018427387904) : octet_Pad.f (n : Int) = some ((fills n : Nat) : Int) := by
  unfold octet_Pad.f
  rw [w64 (by omega) (by omega)]
  have e := and_i64 (-(n : Int)) 3 2 rfl (by omega)
  have e' : Go.bits .and .i64 (-(n : Int)) 3 = (-(n : Int)) % 4 := e
  rw [e']
  unfold fills
  congr 1
  omega
theorem take_zeros (j : Nat) (h : j ≤ 3) : ([0, 0, 0] : List UInt8).take j = List.replicate j 0 := by
  match j, h with
  | 0, _ => rfl
  | 1, _ => rfl
  | 2, _ => rfl
  | 3, _ => rfl
theorem fills_le (n : Nat) : fills n ≤ 3 := by unfold fills; omega
theorem Filled_eq (l : List UInt8) (h : l.length < 4611686018427387904) : octet_Filled.f (mk l) = some (mk (fill l)) := by
  unfold octet_Filled.f
  have hf := fills_le l.length
  rw [size_mk, Pad_eq _ h]
  simp only [Option.bind_some]
  have e : ((⟨#[0, 0, 0]⟩ : ByteArray).extract 0 ((fills l.length : Nat) : Int).toNat) = mk (List.replicate (fills l.length) 0) := by
    show (mk [0, 0, 0]).extract 0 _ = _
    rw [extract_mk, Int.toNat_natCast, take_zeros _ hf]
    rfl
  rw [e, if_pos (by omega), if_pos (by omega), if_pos (by rw [size_mk, List.length_replicate]; omega), mk_append]
  rfl
theorem fill_length (l : List UInt8) : (fill l).length = l.length + fills l.length := by simp [fill]
/-- So many bytes of those, with the first error: these, what is left, the error. -/
def tk (l : List UInt8) (e n : Int) : List UInt8 × List UInt8 × Int :=
  if e = 0 ∧ 0 ≤ n ∧ n ≤ l.length then (l.take n.toNat, l.drop n.toNat, 0) else ([], l, if e = 0 then 2 else e)
theorem Fail_eq (l : List UInt8) (e x : Int) : octet_Reader_Fail.f (mk l) e x = some (mk l, if e = 0 then x else e) := by
  unfold octet_Reader_Fail.f
  split <;> rfl
theorem tk_ok {l : List UInt8} {n : Int} (h0 : 0 ≤ n) (h1 : n ≤ l.length) : tk l 0 n = (l.take n.toNat, l.drop n.toNat, 0) := by
  unfold tk
  rw [if_pos ⟨rfl, h0, h1⟩]
theorem tk_bad {l : List UInt8} {e n : Int} (h : ¬ (e = 0 ∧ 0 ≤ n ∧ n ≤ l.length)) : tk l e n = ([], l, if e = 0 then 2 else e) := by
  unfold tk
  rw [if_neg h]
theorem Take_eq (l : List UInt8) (e n : Int) : octet_Reader_Take.f (mk l) e n = some (mk (tk l e n).1, mk (tk l e n).2.1, (tk l e n).2.2) := by
  unfold octet_Reader_Take.f octet_Reader_Err.f
  simp only [Option.bind_some, size_mk, Fail_eq]
  by_cases he : e = 0
  · subst he
    rw [if_pos rfl]
    by_cases h1 : n < 0
    · rw [if_pos h1, tk_bad (by omega)]
      rfl
    · rw [if_neg h1]
      by_cases h2 : n > (l.length : Int)
      · rw [if_pos h2, tk_bad (by omega)]
        rfl
      · rw [if_neg h2, if_pos (by omega), if_pos (by omega), tk_ok (by omega) (by omega), extract_mk, extract_mk]
        simp
  · rw [if_neg he, tk_bad (by omega)]
    simp [mk, if_neg he]
theorem number_l0 (l : List UInt8) (hl : l.length ≤ 8) (a : ByteArray) (b : Int) : ∀ (d k i : Nat), l.length - i = d → i ≤ l.length → d < k →
    octet_Reader_number.l0 k (num (l.take i)) (mk l) (l.length : Int) (i : Int) a b = some (num l, a, b) := by
  intro d
  induction d with
  | zero =>
    intro k i hd hi hk
    obtain ⟨k, rfl⟩ : ∃ m, k = m + 1 := ⟨k - 1, by omega⟩
    simp only [octet_Reader_number.l0]
    rw [if_neg (by omega), List.take_of_length_le (by omega)]
  | succ d ih =>
    intro k i hd hi hk
    obtain ⟨k, rfl⟩ : ∃ m, k = m + 1 := ⟨k - 1, by omega⟩
    have hlt : i < l.length := by omega
    simp only [octet_Reader_number.l0]
    rw [if_pos (by omega), if_pos (by omega), if_pos (by rw [size_mk]; omega), bt_mk]
    have hb := num_bound (l.take i)
    have hle : (256 : Int) ^ (l.take i).length ≤ 256 ^ 7 := pow_le (by rw [List.length_take]; omega)
    have h7 : (256 : Int) ^ 7 = 72057594037927936 := by decide
    have hg : (l.getD (i : Int).toNat 0) = l[i] := by simp [List.getD_eq_getElem?_getD, hlt]
    have hby := (l[i]).toNat_lt
    rw [hg, wu64, wu64, Int.emod_eq_of_lt (by omega) (by omega), Int.emod_eq_of_lt (by omega) (by omega), or_byte _ _ (by omega) (by omega) (by omega) (by omega), ← num_snoc, w64 (by omega) (by omega)]
    have e : l.take i ++ [l[i]] = l.take (i + 1) := by simp
    rw [e]
    exact ih k (i + 1) (by omega) (by omega) (by omega)
theorem number_eq (l : List UInt8) (e n : Int) (k : Nat) (hn : n ≤ 8) (hk : 9 ≤ k) : octet_Reader_number.f k (mk l) e n = some (num (tk l e n).1, mk (tk l e n).2.1, (tk l e n).2.2) := by
  unfold octet_Reader_number.f
  rw [Take_eq]
  simp only [Option.bind_some, size_mk]
  have hl : (tk l e n).1.length ≤ 8 := by
    unfold tk
    split
    · rw [List.length_take]; omega
    · simp
  have := number_l0 (tk l e n).1 hl (mk (tk l e n).2.1) (tk l e n).2.2 (tk l e n).1.length k 0 (by omega) (by omega) (by omega)
  simpa [num] using this
theorem num_tk (l : List UInt8) (e n : Int) (b : Nat) (hb : n = b) : 0 ≤ num (tk l e n).1 ∧ num (tk l e n).1 < 256 ^ b := by
  have h := num_bound (tk l e n).1
  refine ⟨h.1, Int.lt_of_lt_of_le h.2 (pow_le ?_)⟩
  unfold tk
  split
  · rw [List.length_take]; omega
  · simp
theorem rU16_eq (l : List UInt8) (e : Int) (k : Nat) (hk : 9 ≤ k) : octet_Reader_U16.f k (mk l) e = some (num (tk l e 2).1, mk (tk l e 2).2.1, (tk l e 2).2.2) := by
  unfold octet_Reader_U16.f
  rw [number_eq l e 2 k (by omega) hk]
  have := num_tk l e 2 2 rfl
  simp only [Option.bind_some]
  rw [w64 (by omega) (by omega)]
theorem rU32_eq (l : List UInt8) (e : Int) (k : Nat) (hk : 9 ≤ k) : octet_Reader_U32.f k (mk l) e = some (num (tk l e 4).1, mk (tk l e 4).2.1, (tk l e 4).2.2) := by
  unfold octet_Reader_U32.f
  rw [number_eq l e 4 k (by omega) hk]
  have := num_tk l e 4 4 rfl
  simp only [Option.bind_some]
  rw [Int.emod_eq_of_lt (by omega) (by omega)]
theorem Err_eq (s : ByteArray) (e : Int) : octet_Reader_Err.f s e = some (e, s, e) := rfl
theorem Left_eq (l : List UInt8) (e : Int) : octet_Reader_Left.f (mk l) e = some (if e = 0 then (l.length : Int) else 0, mk l, e) := by
  unfold octet_Reader_Left.f octet_Reader_Err.f
  simp only [Option.bind_some, size_mk]
  split <;> rfl
end Go.Proofs.Ytmdncojhnbbafaa.Oc
namespace Go.Proofs.Ytmdncojhnbbafaa.Rd
open Go Go.RowKit Go.Proofs.YtmdncojhnbbafaaW.PrintWords Go.Proofs.Ytmdncojhnbbafaa.Bt Go.Proofs.Ytmdncojhnbbafaa.PAll Go.Proofs.Ytmdncojhnbbafaa.Oc
set_option linter.unusedVariables false
set_option linter.unusedSimpArgs false
/-- What the document's reader has left. -/
def rf (l : List UInt8) (e : Int) : ByteArray := mk (if e = 0 then l else [])
theorem rf_ok (l : List UInt8) : rf l 0 = mk l := rfl
theorem rf_bad (l : List UInt8) {e : Int} (h : e ≠ 0) : rf l e = mk [] := by unfold rf; rw [if_neg h]
theorem rf_size (l : List UInt8) (e : Int) : ((rf l e).size : Int) = if e = 0 then (l.length : Int) else 0 := by
  unfold rf
  rw [size_mk]
  split <;> rfl
theorem rFail (l : List UInt8) (e x : Int) (hx : x ≠ 0) : crosswayref03_R_Fail.f (rf l e) e x = some (rf l (if e = 0 then x else e), if e = 0 then x else e) := by
  unfold crosswayref03_R_Fail.f
  by_cases h : e = 0
  · subst h
    rw [if_pos rfl, if_pos rfl, rf_bad l hx]
    rfl
  · rw [if_neg h, if_neg h]
theorem rTake (l : List UInt8) (e n : Int) : crosswayref03_R_Take.f (rf l e) e n = some (rf (tk l e n).2.1 (tk l e n).2.2, (tk l e n).2.2, mk (tk l e n).1) := by
  unfold crosswayref03_R_Take.f
  by_cases he : e = 0
  · subst he
    rw [if_pos rfl, rf_ok, size_mk]
    have hf : crosswayref03_R_Fail.f (mk l) 0 2 = some (mk [], 2) := rFail l 0 2 (by omega)
    by_cases h1 : n < 0
    · rw [if_pos h1, hf, tk_bad (by omega)]
      rfl
    · rw [if_neg h1]
      by_cases h2 : n > (l.length : Int)
      · rw [if_pos h2, hf, tk_bad (by omega)]
        rfl
      · rw [if_neg h2, if_pos (by omega), if_pos (by omega), tk_ok (by omega) (by omega), extract_mk, extract_mk]
        simp [rf]
  · rw [if_neg he, tk_bad (by omega)]
    simp only [if_neg he]
    rfl
theorem num_l0 (l : List UInt8) (hl : l.length ≤ 8) (a : ByteArray) (b : Int) : ∀ (d k i : Nat), l.length - i = d → i ≤ l.length → d < k →
    crosswayref03_R_Num.l0 k (mk l) (num (l.take i)) (i : Int) a b = some (a, b, num l) := by
  intro d
  induction d with
  | zero =>
    intro k i hd hi hk
    obtain ⟨k, rfl⟩ : ∃ m, k = m + 1 := ⟨k - 1, by omega⟩
    simp only [crosswayref03_R_Num.l0]
    rw [size_mk, if_neg (by omega), List.take_of_length_le (by omega)]
  | succ d ih =>
    intro k i hd hi hk
    obtain ⟨k, rfl⟩ : ∃ m, k = m + 1 := ⟨k - 1, by omega⟩
    have hlt : i < l.length := by omega
    simp only [crosswayref03_R_Num.l0]
    rw [size_mk, if_pos (by omega), if_pos (by omega), bt_mk]
    have hb := num_bound (l.take i)
    have hle : (256 : Int) ^ (l.take i).length ≤ 256 ^ 7 := pow_le (by rw [List.length_take]; omega)
    have h7 : (256 : Int) ^ 7 = 72057594037927936 := by decide
    have hg : (l.getD (i : Int).toNat 0) = l[i] := by simp [List.getD_eq_getElem?_getD, hlt]
    have hby := (l[i]).toNat_lt
    rw [hg, wu64, wu64, wu64, Int.emod_eq_of_lt (show 0 ≤ num (l.take i) * 256 by omega) (by omega), Int.emod_eq_of_lt (show (0 : Int) ≤ (l[i].toNat : Int) by omega) (by omega), Int.emod_eq_of_lt (by omega) (by omega), ← num_snoc, w64 (by omega) (by omega)]
    have e : l.take i ++ [l[i]] = l.take (i + 1) := by simp
    rw [e]
    exact ih k (i + 1) (by omega) (by omega) (by omega)
theorem rNum (l : List UInt8) (e n : Int) (k : Nat) (hn : n ≤ 8) (hk : 9 ≤ k) : crosswayref03_R_Num.f k (rf l e) e n = some (rf (tk l e n).2.1 (tk l e n).2.2, (tk l e n).2.2, num (tk l e n).1) := by
  unfold crosswayref03_R_Num.f
  rw [rTake]
  simp only [Option.bind_some]
  have hl : (tk l e n).1.length ≤ 8 := by
    unfold tk
    split
    · rw [List.length_take]; omega
    · simp
  have := num_l0 (tk l e n).1 hl (rf (tk l e n).2.1 (tk l e n).2.2) (tk l e n).2.2 (tk l e n).1.length k 0 (by omega) (by omega) (by omega)
  simpa [num] using this
/-- Noughts alone. -/
def zr (s : List UInt8) : Bool := s.all (· == 0)
theorem zr_iff (s : List UInt8) : zr s = true ↔ s = List.replicate s.length 0 := by
  unfold zr
  rw [List.all_eq_true, List.eq_replicate_iff]
  simp
/-- Behind what fills up n bytes. -/
def fl (l : List UInt8) (n : Nat) : List UInt8 × Int := if zr (l.take (fills n)) = true then (l.drop (fills n), 0) else (l.drop (fills n), 4)
def fls (l : List UInt8) (e : Int) (n : Nat) : List UInt8 × Int := if e = 0 then fl l n else (l, e)
theorem take_min (l : List UInt8) (j : Nat) : l.take (min j l.length) = l.take j := by
  rcases Nat.le_total j l.length with h | h
  · rw [Nat.min_eq_left h]
  · rw [Nat.min_eq_right h, List.take_of_length_le (Nat.le_refl _), List.take_of_length_le h]
theorem drop_min (l : List UInt8) (j : Nat) : l.drop (min j l.length) = l.drop j := by
  rcases Nat.le_total j l.length with h | h
  · rw [Nat.min_eq_left h]
  · rw [Nat.min_eq_right h, List.drop_of_length_le (Nat.le_refl _), List.drop_of_length_le h]
theorem Fill_eq (l : List UInt8) (e : Int) (n : Nat) (hn : n < 4611686018427387904) : octet_Reader_Fill.f (mk l) e (n : Int) = some (mk (fls l e n).1, (fls l e n).2) := by
  unfold octet_Reader_Fill.f
  rw [Pad_eq n hn]
  simp only [Option.bind_some, Left_eq]
  have hf := fills_le n
  by_cases he : e = 0
  · subst he
    have em : mn ((fills n : Nat) : Int) (l.length : Int) = ((min (fills n) l.length : Nat) : Int) := mn_nat _ _
    rw [if_pos rfl, em, Take_eq, tk_ok (by omega) (by omega)]
    simp only [Option.bind_some, Int.toNat_natCast, take_min, drop_min, size_mk]
    have hlen : (l.take (fills n)).length ≤ 3 := by rw [List.length_take]; omega
    rw [if_pos (by omega), if_pos (by omega)]
    have ez : ((⟨#[0, 0, 0]⟩ : ByteArray).extract 0 (l.take (fills n)).length) = mk (List.replicate (l.take (fills n)).length 0) := by
      show (mk [0, 0, 0]).extract 0 _ = _
      rw [extract_mk, take_zeros _ hlen]
      rfl
    rw [ez, toList_mk, toList_mk]
    have hz := zr_iff (l.take (fills n))
    unfold fls fl
    rw [if_pos rfl]
    by_cases h : zr (l.take (fills n)) = true
    · rw [if_pos (hz.1 h), if_pos h]
    · rw [if_neg (fun h2 => h (hz.2 h2)), if_neg h, Fail_eq]
      rfl
  · have em : mn ((fills n : Nat) : Int) 0 = ((min (fills n) 0 : Nat) : Int) := mn_nat _ 0
    rw [if_neg he, em, Take_eq, tk_bad (by omega)]
    simp only [Option.bind_some, size_mk, if_neg he]
    unfold fls
    rw [if_neg he, if_pos (by simp), if_pos (by simp)]
    have ez : ((⟨#[0, 0, 0]⟩ : ByteArray).extract 0 ([] : List UInt8).length) = mk [] := by
      show (mk [0, 0, 0]).extract 0 _ = _
      rw [extract_mk]
      rfl
    rw [ez, if_pos rfl]
theorem fill_l0 (s q : List UInt8) (hs : s.length ≤ 3) : ∀ (d k i : Nat), s.length - i = d → i ≤ s.length → d < k →
    crosswayref03_R_Fill.l0 k (mk s) (i : Int) (mk q) 0 = some (rf q (if zr (s.drop i) = true then 0 else 4), if zr (s.drop i) = true then 0 else 4) := by
  intro d
  induction d with
  | zero =>
    intro k i hd hi hk
    obtain ⟨k, rfl⟩ : ∃ m, k = m + 1 := ⟨k - 1, by omega⟩
    simp only [crosswayref03_R_Fill.l0]
    rw [size_mk, if_neg (by omega), List.drop_of_length_le (by omega)]
    rfl
  | succ d ih =>
    intro k i hd hi hk
    obtain ⟨k, rfl⟩ : ∃ m, k = m + 1 := ⟨k - 1, by omega⟩
    have hlt : i < s.length := by omega
    simp only [crosswayref03_R_Fill.l0]
    rw [size_mk, if_pos (by omega), if_pos (by omega), bt_mk, w64 (by omega) (by omega)]
    have hg : (s.getD (i : Int).toNat 0) = s[i] := by simp [List.getD_eq_getElem?_getD, hlt]
    have hd2 : s.drop i = s[i] :: s.drop (i + 1) := List.drop_eq_getElem_cons hlt
    have hz : zr (s.drop i) = ((s[i] == 0) && zr (s.drop (i + 1))) := by rw [hd2]; rfl
    rw [hg, hz]
    by_cases h : s[i] = 0
    · rw [if_pos (by rw [h]; rfl), h]
      have := ih k (i + 1) (by omega) (by omega) (by omega)
      simpa using this
    · have hne : ¬ ((s[i].toNat : Int) = 0) := by
        intro h0
        apply h
        apply UInt8.toNat.inj
        have : s[i].toNat = 0 := by omega
        simpa using this
      have hb : (s[i] == 0) = false := by simpa using h
      rw [if_neg hne, hb]
      have hf : crosswayref03_R_Fail.f (mk q) 0 4 = some (mk [], 4) := rFail q 0 4 (by omega)
      rw [hf]
      rfl
theorem ref_pad (n : Nat) (hn : n < 4611686018427387904) : Int.tmod (wrap64 (4 - (Int.tmod (n : Int) 4))) 4 = ((fills n : Nat) : Int) := by
  have e1 : Int.tmod (n : Int) 4 = (n : Int) % 4 := tmod_pos (by omega)
  rw [e1, w64 (by omega) (by omega), tmod_pos (by omega)]
  unfold fills
  omega
theorem rFill (l : List UInt8) (e : Int) (n : Nat) (k : Nat) (hn : n < 4611686018427387904) (hk : 6 ≤ k) : crosswayref03_R_Fill.f k (rf l e) e (n : Int) = some (rf (fls l e n).1 (fls l e n).2, (fls l e n).2) := by
  obtain ⟨k, rfl⟩ : ∃ m, k = m + 1 := ⟨k - 1, by omega⟩
  have hf := fills_le n
  unfold crosswayref03_R_Fill.f
  rw [ref_pad n hn]
  by_cases he : e = 0
  · subst he
    have hj : ∀ j : Nat, j = min (fills n) l.length → crosswayref03_R_Fill.j0 (k + 1) (j : Int) (rf l 0) 0 = some (rf (fls l 0 n).1 (fls l 0 n).2, (fls l 0 n).2) := by
      intro j hj
      simp only [crosswayref03_R_Fill.j0]
      rw [rTake, tk_ok (by omega) (by omega)]
      simp only [Option.bind_some, Int.toNat_natCast]
      rw [rf_ok, hj, take_min, drop_min]
      have := fill_l0 (l.take (fills n)) (l.drop (fills n)) (by rw [List.length_take]; omega) (l.take (fills n)).length k 0 (by omega) (by omega) (by rw [List.length_take]; omega)
      rw [List.drop_zero] at this
      have this2 : crosswayref03_R_Fill.l0 k (mk (l.take (fills n))) 0 (mk (l.drop (fills n))) 0 = _ := this
      rw [this2]
      unfold fls fl
      rw [if_pos rfl]
      by_cases h : zr (l.take (fills n)) = true
      · rw [if_pos h, if_pos h]
      · rw [if_neg h, if_neg h]
    rw [rf_ok, size_mk]
    by_cases h : ((fills n : Nat) : Int) > (l.length : Int)
    · rw [if_pos h]
      exact hj l.length (by omega)
    · rw [if_neg h]
      exact hj (fills n) (by omega)
  · have hj : ∀ j : Int, crosswayref03_R_Fill.j0 (k + 1) j (rf l e) e = some (rf (fls l e n).1 (fls l e n).2, (fls l e n).2) := by
      intro j
      obtain ⟨k, rfl⟩ : ∃ m, k = m + 1 := ⟨k - 1, by omega⟩
      simp only [crosswayref03_R_Fill.j0]
      rw [rTake, tk_bad (by omega)]
      simp only [Option.bind_some, if_neg he, crosswayref03_R_Fill.l0, size_mk]
      unfold fls
      rw [if_neg he]
      simp
    split <;> exact hj _
end Go.Proofs.Ytmdncojhnbbafaa.Rd
namespace Go.Proofs.Ytmdncojhnbbafaa.Pm
open Go Go.RowKit Go.Proofs.YtmdncojhnbbafaaW.PrintWords Go.Proofs.Ytmdncojhnbbafaa.Bt Go.Proofs.Ytmdncojhnbbafaa.PAll Go.Proofs.Ytmdncojhnbbafaa.Oc Go.Proofs.Ytmdncojhnbbafaa.Rd
set_option linter.unusedVariables false
set_option linter.unusedSimpArgs false
abbrev It := Int × List UInt8
def p65 (x : It) : S65 := ⟨x.1, mk x.2⟩
def p85 (x : It) : S85 := ⟨x.1, mk x.2⟩
/-- The second number of a head. -/
def hn (l : List UInt8) : Int := num ((l.drop 2).take 2)
theorem hn_bd (l : List UInt8) : 0 ≤ hn l ∧ hn l < 65536 := by
  have h := num_bound ((l.drop 2).take 2)
  have : (256 : Int) ^ ((l.drop 2).take 2).length ≤ 256 ^ 2 := pow_le (by rw [List.length_take]; omega)
  have e : (256 : Int) ^ 2 = 65536 := by decide
  unfold hn
  omega
/-- One parameter of bytes: its type, its value, what is left, the error. -/
def ptake (l : List UInt8) : Int × List UInt8 × List UInt8 × Int :=
  if l.length < 4 then (0, [], l, 2)
  else if hn l < 4 ∨ hn l > 1004 then (0, [], l.drop 4, 3)
  else if (l.drop 4).length < (hn l - 4).toNat + fills (hn l - 4).toNat then (0, [], l.drop 4, 2)
  else if zr (((l.drop 4).drop (hn l - 4).toNat).take (fills (hn l - 4).toNat)) = true then (num (l.take 2), (l.drop 4).take (hn l - 4).toNat, ((l.drop 4).drop (hn l - 4).toNat).drop (fills (hn l - 4).toNat), 0)
  else (0, [], l.drop 4, 4)
theorem num_take2 (l : List UInt8) : 0 ≤ num (l.take 2) ∧ num (l.take 2) < 65536 := by
  have h := num_bound (l.take 2)
  have : (256 : Int) ^ (l.take 2).length ≤ 256 ^ 2 := pow_le (by rw [List.length_take]; omega)
  have e : (256 : Int) ^ 2 = 65536 := by decide
  omega
theorem j1_err (l : List UInt8) (e m t : Int) (v : ByteArray) (k : Nat) (he : e ≠ 0) (hk : 1 ≤ k) : param_Take.j1 k m (mk l) e t v = some (0, mk [], mk l, e) := by
  obtain ⟨k, rfl⟩ : ∃ m, k = m + 1 := ⟨k - 1, by omega⟩
  simp only [param_Take.j1, Take_eq]
  rw [tk_bad (by omega)]
  simp only [Option.bind_some, Err_eq, if_neg he]
  rfl
theorem j2_eq (l : List UInt8) (e t : Int) (m : Nat) (v : ByteArray) (k : Nat) (hm : m ≤ 1000) (hk : 1 ≤ k) : param_Take.j2 k (m : Int) (mk l) e t v = if (fls l e m).2 = 0 then some (t, v, mk (fls l e m).1, 0) else some (0, mk [], mk (fls l e m).1, (fls l e m).2) := by
  obtain ⟨k, rfl⟩ : ∃ m, k = m + 1 := ⟨k - 1, by omega⟩
  simp only [param_Take.j2, Fill_eq l e m (by omega), Option.bind_some, Err_eq]
  split
  · rename_i h
    rw [h]
  · rfl
theorem pTake_eq (l : List UInt8) (hl : l.length < 4611686018427387904) (k : Nat) (hk : 20 ≤ k) : ∃ l', param_Take.f k (mk l) 0 = some ((ptake l).1, mk (ptake l).2.1, mk l', (ptake l).2.2.2) ∧ ((ptake l).2.2.2 = 0 → l' = (ptake l).2.2.1) := by
  obtain ⟨k, rfl⟩ : ∃ m, k = m + 3 := ⟨k - 3, by omega⟩
  unfold param_Take.f
  rw [rU16_eq l 0 _ (by omega)]
  simp only [Option.bind_some]
  by_cases h4 : l.length < 4
  · have hp : ptake l = (0, [], l, 2) := by unfold ptake; rw [if_pos h4]
    rw [hp]
    have err : ∀ q : List UInt8, param_Take.j0 (k + 3) (wrap64 (num [] - 4)) false (mk q) 2 (num (tk l 0 2).1) (⟨#[]⟩ : ByteArray) = some (0, mk [], mk q, 2) := by
      intro q
      simp only [param_Take.j0, Bool.false_eq_true, if_false]
      exact j1_err q 2 _ _ _ _ (by omega) (by omega)
    by_cases h2 : l.length < 2
    · refine ⟨l, ?_, fun h => by cases h⟩
      have e1 : tk l 0 2 = ([], l, 2) := tk_bad (by omega)
      rw [e1]
      simp only
      rw [rU16_eq l 2 _ (by omega), tk_bad (by omega)]
      simp only [Option.bind_some, Err_eq]
      rw [e1] at err
      exact err l
    · refine ⟨l.drop 2, ?_, fun h => by cases h⟩
      have e1 : tk l 0 2 = (l.take 2, l.drop 2, 0) := tk_ok (by omega) (by omega)
      have e2 : tk (l.drop 2) 0 2 = ([], l.drop 2, 2) := tk_bad (by rw [List.length_drop]; omega)
      rw [e1] at err ⊢
      simp only
      rw [rU16_eq (l.drop 2) 0 _ (by omega), e2]
      simp only [Option.bind_some, Err_eq]
      exact err (l.drop 2)
  · have e1 : tk l 0 2 = (l.take 2, l.drop 2, 0) := tk_ok (by omega) (by omega)
    have e2 : tk (l.drop 2) 0 2 = ((l.drop 2).take 2, l.drop 4, 0) := by
      rw [tk_ok (by omega) (by rw [List.length_drop]; omega), show (2 : Int).toNat = 2 from rfl, List.drop_drop]
    rw [e1]
    simp only
    rw [rU16_eq (l.drop 2) 0 _ (by omega), e2]
    simp only [Option.bind_some, Err_eq, if_true]
    have hb := hn_bd l
    have e3 : num ((l.drop 2).take 2) = hn l := rfl
    rw [e3, w64 (by omega) (by omega)]
    have bad : ∀ b, param_Take.j0 (k + 3) (hn l - 4) true (mk (l.drop 4)) 0 b (⟨#[]⟩ : ByteArray) = some (0, mk [], mk (l.drop 4), 3) := by
      intro b
      simp only [param_Take.j0, if_true, Fail_eq, Option.bind_some]
      exact j1_err (l.drop 4) 3 _ _ _ _ (by omega) (by omega)
    by_cases c1 : hn l < 4 ∨ hn l > 1004
    · have hp : ptake l = (0, [], l.drop 4, 3) := by unfold ptake; rw [if_neg h4, if_pos c1]
      rw [hp]
      refine ⟨l.drop 4, ?_, fun h => by cases h⟩
      by_cases c2 : hn l - 4 < 0
      · rw [if_pos c2]
        exact bad _
      · rw [if_neg c2, decide_eq_true (show hn l - 4 > 1000 by omega)]
        exact bad _
    · rw [if_neg (by omega), decide_eq_false (show ¬ (hn l - 4 > 1000) by omega)]
      obtain ⟨m, hm⟩ : ∃ m : Nat, hn l - 4 = (m : Int) := Int.eq_ofNat_of_zero_le (by omega)
      have hm2 : (hn l - 4).toNat = m := by omega
      simp only [param_Take.j0, param_Take.j1]
      rw [if_neg (by decide), hm, Take_eq]
      by_cases c3 : (l.drop 4).length < m
      · have hp : ptake l = (0, [], l.drop 4, 2) := by unfold ptake; rw [if_neg h4, if_neg c1, hm2, if_pos (by omega)]
        rw [hp, tk_bad (by omega)]
        exact ⟨l.drop 4, rfl, fun h => by cases h⟩
      · rw [tk_ok (by omega) (by omega)]
        simp only [Option.bind_some, Err_eq, if_true, Pad_eq m (by omega), Left_eq, Int.toNat_natCast]
        by_cases c4 : (l.drop 4).length < m + fills m
        · have hp : ptake l = (0, [], l.drop 4, 2) := by unfold ptake; rw [if_neg h4, if_neg c1, hm2, if_pos c4]
          rw [hp, if_pos (by simp only [List.length_drop] at c3 c4 ⊢; omega), Fail_eq]
          simp only [Option.bind_some, if_true]
          rw [j2_eq _ _ _ _ _ _ (by omega) (by omega)]
          exact ⟨(l.drop 4).drop m, rfl, fun h => by cases h⟩
        · rw [if_neg (by simp only [List.length_drop] at c3 c4 ⊢; omega), j2_eq _ _ _ _ _ _ (by omega) (by omega)]
          have ef : fls ((l.drop 4).drop m) 0 m = fl ((l.drop 4).drop m) m := if_pos rfl
          rw [ef]
          by_cases c5 : zr (((l.drop 4).drop m).take (fills m)) = true
          · have hp : ptake l = (num (l.take 2), (l.drop 4).take m, ((l.drop 4).drop m).drop (fills m), 0) := by unfold ptake; rw [if_neg h4, if_neg c1, hm2, if_neg c4, if_pos c5]
            have e5 : fl ((l.drop 4).drop m) m = (((l.drop 4).drop m).drop (fills m), 0) := if_pos c5
            rw [hp, e5]
            exact ⟨_, rfl, fun _ => rfl⟩
          · have hp : ptake l = (0, [], l.drop 4, 4) := by unfold ptake; rw [if_neg h4, if_neg c1, hm2, if_neg c4, if_neg c5]
            have e5 : fl ((l.drop 4).drop m) m = (((l.drop 4).drop m).drop (fills m), 4) := if_neg c5
            rw [hp, e5]
            exact ⟨_, rfl, fun h => by cases h⟩
theorem fills4 (m : Nat) : fills (m + 4) = fills m := by unfold fills; omega
theorem refj1_err (l : List UInt8) (e a b : Int) (k : Nat) (he : e ≠ 0) (hk : 1 ≤ k) : crosswayref04_Take.j1 k a b (rf l e) e = some (mk [], e, 0, mk []) := by
  obtain ⟨k, rfl⟩ : ∃ m, k = m + 1 := ⟨k - 1, by omega⟩
  simp only [crosswayref04_Take.j1]
  rw [rTake, tk_bad (by omega)]
  simp only [Option.bind_some, if_neg he, rf_bad _ he]
  rfl
theorem rTakeP (l : List UInt8) (hl : l.length < 4611686018427387904) (k : Nat) (hk : 30 ≤ k) : crosswayref04_Take.f k (mk l) 0 = some (rf (ptake l).2.2.1 (ptake l).2.2.2, (ptake l).2.2.2, (ptake l).1, mk (ptake l).2.1) := by
  obtain ⟨k, rfl⟩ : ∃ m, k = m + 3 := ⟨k - 3, by omega⟩
  unfold crosswayref04_Take.f
  rw [← rf_ok, rNum l 0 2 _ (by omega) (by omega)]
  simp only [Option.bind_some]
  rw [rNum _ _ 2 _ (by omega) (by omega)]
  simp only [Option.bind_some]
  by_cases h4 : l.length < 4
  · have hp : ptake l = (0, [], l, 2) := by unfold ptake; rw [if_pos h4]
    rw [hp]
    show _ = some (rf l 2, (2 : Int), (0 : Int), mk [])
    rw [show rf l 2 = mk [] from rf_bad l (by omega)]
    have hb : tk (tk l 0 2).2.1 (tk l 0 2).2.2 2 = ([], (tk l 0 2).2.1, 2) := by
      by_cases h2 : l.length < 2
      · have e1 : tk l 0 2 = ([], l, 2) := tk_bad (by omega)
        rw [e1]
        exact tk_bad (by
          show ¬ ((2 : Int) = 0 ∧ _)
          omega)
      · have e1 : tk l 0 2 = (l.take 2, l.drop 2, 0) := tk_ok (by omega) (by omega)
        rw [e1]
        exact tk_bad (by
          show ¬ ((0 : Int) = 0 ∧ (0 : Int) ≤ 2 ∧ (2 : Int) ≤ ((l.drop 2).length : Int))
          rw [List.length_drop]
          omega)
    rw [hb]
    simp only
    rw [if_neg (show ¬ ((2 : Int) = 0) by omega)]
    simp only [crosswayref04_Take.j0, Bool.false_eq_true, if_false]
    exact refj1_err _ 2 _ _ _ (by omega) (by omega)
  · have e1 : tk l 0 2 = (l.take 2, l.drop 2, 0) := tk_ok (by omega) (by omega)
    have e2 : tk (l.drop 2) 0 2 = ((l.drop 2).take 2, l.drop 4, 0) := by
      rw [tk_ok (by omega) (by rw [List.length_drop]; omega), show (2 : Int).toNat = 2 from rfl, List.drop_drop]
    rw [e1]
    simp only
    rw [e2]
    simp only [if_true]
    have hb := hn_bd l
    have ht := num_take2 l
    have e3 : num ((l.drop 2).take 2) = hn l := rfl
    rw [e3]
    have bad : crosswayref04_Take.j0 (k + 3) (num (l.take 2)) (hn l) true (rf (l.drop 4) 0) 0 = some (mk [], 3, 0, mk []) := by
      simp only [crosswayref04_Take.j0, if_true, rFail _ 0 3 (by omega), Option.bind_some]
      exact refj1_err (l.drop 4) 3 _ _ _ (by omega) (by omega)
    by_cases c1 : hn l < 4 ∨ hn l > 1004
    · have hp : ptake l = (0, [], l.drop 4, 3) := by unfold ptake; rw [if_neg h4, if_pos c1]
      rw [hp]
      show _ = some (rf (l.drop 4) 3, (3 : Int), (0 : Int), mk [])
      rw [show rf (l.drop 4) 3 = mk [] from rf_bad _ (by omega)]
      by_cases c2 : hn l < 4
      · rw [if_pos c2]
        exact bad
      · rw [if_neg c2, decide_eq_true (show hn l > 1004 by omega)]
        exact bad
    · rw [if_neg (by omega), decide_eq_false (show ¬ (hn l > 1004) by omega)]
      obtain ⟨m, hm⟩ : ∃ m : Nat, hn l = ((m + 4 : Nat) : Int) := by
        obtain ⟨m, hm⟩ : ∃ m : Nat, hn l - 4 = (m : Int) := Int.eq_ofNat_of_zero_le (by omega)
        exact ⟨m, by omega⟩
      have hm2 : (hn l - 4).toNat = m := by omega
      have hf3 := fills_le m
      simp only [crosswayref04_Take.j0, crosswayref04_Take.j1]
      rw [if_neg (by decide), hm, w64 (show -9223372036854775808 ≤ ((m + 4 : Nat) : Int) by omega) (by omega), w64 (by omega) (by omega), show ((m + 4 : Nat) : Int) - 4 = (m : Int) by omega, rTake]
      by_cases c3 : (l.drop 4).length < m
      · have hp : ptake l = (0, [], l.drop 4, 2) := by unfold ptake; rw [if_neg h4, if_neg c1, hm2, if_pos (by omega)]
        rw [hp, tk_bad (by omega)]
        rfl
      · rw [tk_ok (by omega) (by omega)]
        simp only [Option.bind_some, if_true, Int.toNat_natCast]
        have whole : crosswayref03_R_Whole.f (k + 1) (rf ((l.drop 4).drop m) 0) 0 ((m + 4 : Nat) : Int) = if ((l.drop 4).drop m).length < fills m then some (mk [], 2) else some (rf (fls ((l.drop 4).drop m) 0 m).1 (fls ((l.drop 4).drop m) 0 m).2, (fls ((l.drop 4).drop m) 0 m).2) := by
          unfold crosswayref03_R_Whole.f
          rw [if_pos rfl, ref_pad (m + 4) (by omega), fills4, rf_size, if_pos rfl]
          by_cases c : ((l.drop 4).drop m).length < fills m
          · rw [if_pos c, decide_eq_true (by omega)]
            simp only [crosswayref03_R_Whole.j0, if_true, rFail _ 0 2 (by omega), Option.bind_some]
            rfl
          · rw [if_neg c, decide_eq_false (by omega)]
            simp only [crosswayref03_R_Whole.j0]
            have ef : fls ((l.drop 4).drop m) 0 (m + 4) = fls ((l.drop 4).drop m) 0 m := by unfold fls fl; rw [fills4]
            rw [if_neg (by decide), rFill _ 0 (m + 4) _ (by omega) (by omega), ef]
            rfl
        rw [whole]
        by_cases c4 : (l.drop 4).length < m + fills m
        · have hp : ptake l = (0, [], l.drop 4, 2) := by unfold ptake; rw [if_neg h4, if_neg c1, hm2, if_pos c4]
          rw [hp, if_pos (by simp only [List.length_drop] at c3 c4 ⊢; omega)]
          rfl
        · rw [if_neg (by simp only [List.length_drop] at c3 c4 ⊢; omega)]
          have ef : fls ((l.drop 4).drop m) 0 m = fl ((l.drop 4).drop m) m := if_pos rfl
          rw [ef]
          by_cases c5 : zr (((l.drop 4).drop m).take (fills m)) = true
          · have hp : ptake l = (num (l.take 2), (l.drop 4).take m, ((l.drop 4).drop m).drop (fills m), 0) := by unfold ptake; rw [if_neg h4, if_neg c1, hm2, if_neg c4, if_pos c5]
            have e5 : fl ((l.drop 4).drop m) m = (((l.drop 4).drop m).drop (fills m), 0) := if_pos c5
            rw [hp, e5]
            simp only [Option.bind_some, if_true]
            rw [w64 (by omega) (by omega)]
          · have hp : ptake l = (0, [], l.drop 4, 4) := by unfold ptake; rw [if_neg h4, if_neg c1, hm2, if_neg c4, if_neg c5]
            have e5 : fl ((l.drop 4).drop m) m = (((l.drop 4).drop m).drop (fills m), 4) := if_neg c5
            rw [hp, e5]
            rfl
/-- May it be? -/
def Valid (x : It) : Prop := 0 ≤ x.1 ∧ x.1 < 65536 ∧ x.2.length ≤ 1000
instance (x : It) : Decidable (Valid x) := inferInstanceAs (Decidable (_ ∧ _ ∧ _))
/-- Its bytes. -/
def pbytes (x : It) : List UInt8 := fill (be 2 x.1 ++ be 2 ((x.2.length : Int) + 4) ++ x.2)
theorem pbytes_eq (x : It) : pbytes x = be 2 x.1 ++ (be 2 ((x.2.length : Int) + 4) ++ (x.2 ++ List.replicate (fills x.2.length) 0)) := by
  unfold pbytes fill
  have e : (be 2 x.1 ++ be 2 ((x.2.length : Int) + 4) ++ x.2).length = x.2.length + 4 := by simp [be_length]; omega
  rw [e, fills4]
  simp
theorem be2_length (n : Int) : (be 2 n).length = 2 := be_length 2 n
theorem num_be2 (n : Int) (h0 : 0 ≤ n) (h1 : n < 65536) : num (be 2 n) = n := by
  rw [num_be 2 n h0, show (256 : Int) ^ 2 = 65536 by decide, Int.emod_eq_of_lt h0 h1]
theorem zr_zeros (n : Nat) : zr (List.replicate n 0) = true := (zr_iff _).2 (by simp)
theorem ptake_put (x : It) (hx : Valid x) (t : List UInt8) : ptake (pbytes x ++ t) = (x.1, x.2, t, 0) := by
  obtain ⟨h0, h1, h2⟩ := hx
  have e : pbytes x ++ t = be 2 x.1 ++ (be 2 ((x.2.length : Int) + 4) ++ (x.2 ++ (List.replicate (fills x.2.length) 0 ++ t))) := by rw [pbytes_eq]; simp
  rw [e]
  have d2 : ∀ r, (be 2 x.1 ++ r).drop 2 = r := fun r => by
    have := List.drop_left (l₁ := be 2 x.1) (l₂ := r)
    rwa [be2_length] at this
  have d2' : ∀ r, (be 2 ((x.2.length : Int) + 4) ++ r).drop 2 = r := fun r => by
    have := List.drop_left (l₁ := be 2 ((x.2.length : Int) + 4)) (l₂ := r)
    rwa [be2_length] at this
  have t2 : ∀ r, (be 2 x.1 ++ r).take 2 = be 2 x.1 := fun r => by
    have := List.take_left (l₁ := be 2 x.1) (l₂ := r)
    rwa [be2_length] at this
  have t2' : ∀ r, (be 2 ((x.2.length : Int) + 4) ++ r).take 2 = be 2 ((x.2.length : Int) + 4) := fun r => by
    have := List.take_left (l₁ := be 2 ((x.2.length : Int) + 4)) (l₂ := r)
    rwa [be2_length] at this
  have hh : hn (be 2 x.1 ++ (be 2 ((x.2.length : Int) + 4) ++ (x.2 ++ (List.replicate (fills x.2.length) 0 ++ t)))) = (x.2.length : Int) + 4 := by
    unfold hn
    rw [d2, t2', num_be2 _ (by omega) (by omega)]
  have d4 : (be 2 x.1 ++ (be 2 ((x.2.length : Int) + 4) ++ (x.2 ++ (List.replicate (fills x.2.length) 0 ++ t)))).drop 4 = x.2 ++ (List.replicate (fills x.2.length) 0 ++ t) := by
    rw [show 4 = 2 + 2 from rfl, ← List.drop_drop, d2, d2']
  have hm : ((x.2.length : Int) + 4 - 4).toNat = x.2.length := by omega
  unfold ptake
  rw [hh, d4, hm, t2]
  rw [if_neg (by simp [be_length]; omega), if_neg (by omega), if_neg (by simp)]
  rw [List.drop_left, List.take_left]
  have e3 : (List.replicate (fills x.2.length) (0 : UInt8) ++ t).take (fills x.2.length) = List.replicate (fills x.2.length) 0 := by
    have := List.take_left (l₁ := List.replicate (fills x.2.length) (0 : UInt8)) (l₂ := t)
    rwa [List.length_replicate] at this
  have e4 : (List.replicate (fills x.2.length) (0 : UInt8) ++ t).drop (fills x.2.length) = t := by
    have := List.drop_left (l₁ := List.replicate (fills x.2.length) (0 : UInt8)) (l₂ := t)
    rwa [List.length_replicate] at this
  rw [e3, e4, if_pos (zr_zeros _), num_be2 _ h0 h1]
theorem ptake_bytes (l : List UInt8) (h : (ptake l).2.2.2 = 0) : l = pbytes ((ptake l).1, (ptake l).2.1) ++ (ptake l).2.2.1 ∧ Valid ((ptake l).1, (ptake l).2.1) := by
  have hb := hn_bd l
  have ht := num_take2 l
  by_cases c0 : l.length < 4
  · unfold ptake at h
    rw [if_pos c0] at h
    cases h
  · by_cases c1 : hn l < 4 ∨ hn l > 1004
    · unfold ptake at h
      rw [if_neg c0, if_pos c1] at h
      cases h
    · obtain ⟨m, hm⟩ : ∃ m : Nat, hn l - 4 = (m : Int) := Int.eq_ofNat_of_zero_le (by omega)
      have hm2 : (hn l - 4).toNat = m := by omega
      by_cases c4 : (l.drop 4).length < m + fills m
      · unfold ptake at h
        rw [if_neg c0, if_neg c1, hm2, if_pos c4] at h
        cases h
      · by_cases c5 : zr (((l.drop 4).drop m).take (fills m)) = true
        · have hp : ptake l = (num (l.take 2), (l.drop 4).take m, ((l.drop 4).drop m).drop (fills m), 0) := by unfold ptake; rw [if_neg c0, if_neg c1, hm2, if_neg c4, if_pos c5]
          rw [hp]
          have hlen : ((l.drop 4).take m).length = m := by rw [List.length_take]; omega
          refine ⟨?_, ?_⟩
          · rw [pbytes_eq]
            simp only [hlen]
            have f1 : be 2 (num (l.take 2)) = l.take 2 := by
              have := be_num (l.take 2)
              rwa [show (l.take 2).length = 2 by rw [List.length_take]; omega] at this
            have f2 : be 2 ((m : Int) + 4) = (l.drop 2).take 2 := by
              have := be_num ((l.drop 2).take 2)
              rw [show ((l.drop 2).take 2).length = 2 by rw [List.length_take, List.length_drop]; omega] at this
              rw [show (m : Int) + 4 = num ((l.drop 2).take 2) by show _ = hn l; omega]
              exact this
            have f3 : List.replicate (fills m) 0 = ((l.drop 4).drop m).take (fills m) := by
              have := (zr_iff _).1 c5
              rw [show (((l.drop 4).drop m).take (fills m)).length = fills m by simp only [List.length_take, List.length_drop] at c4 ⊢; omega] at this
              exact this.symm
            rw [f1, f2, f3, List.append_assoc, List.append_assoc, List.append_assoc, List.take_append_drop, List.take_append_drop]
            have f4 : (l.drop 2).take 2 ++ l.drop 4 = l.drop 2 := by
              have := List.take_append_drop 2 (l.drop 2)
              rwa [List.drop_drop] at this
            rw [f4, List.take_append_drop]
          · exact ⟨ht.1, ht.2, by show ((l.drop 4).take m).length ≤ 1000; omega⟩
        · unfold ptake at h
          rw [if_neg c0, if_neg c1, hm2, if_neg c4, if_neg c5] at h
          cases h
def pall : Nat → List It → List UInt8 → List It × Int
  | 0, _, _ => ([], 2)
  | f + 1, out, l => if l = [] then (out, 0) else if out.length = 16 then ([], 5) else if (ptake l).2.2.2 = 0 then pall f (out ++ [((ptake l).1, (ptake l).2.1)]) (ptake l).2.2.1 else ([], (ptake l).2.2.2)
theorem ptake_shorter (l : List UInt8) : (ptake l).2.2.1.length ≤ l.length := by
  unfold ptake
  split
  · exact Nat.le_refl _
  · split
    · simp only [List.length_drop]; omega
    · split
      · simp only [List.length_drop]; omega
      · split
        · simp only [List.length_drop]; omega
        · simp only [List.length_drop]; omega
theorem pAll_l0 : ∀ (f k : Nat) (out : List It) (l : List UInt8), 17 ≤ f + out.length → out.length ≤ 16 → l.length < 4611686018427387904 → f + 40 ≤ k →
    param_All.l0 k (out.map p65) (mk l) 0 = some ((pall f out l).1.map p65, (pall f out l).2) := by
  intro f
  induction f with
  | zero => intro k out l hf ho hl hk; omega
  | succ f ih =>
    intro k out l hf ho hl hk
    obtain ⟨k, rfl⟩ : ∃ m, k = m + 2 := ⟨k - 2, by omega⟩
    simp only [param_All.l0, Left_eq, Option.bind_some, if_true, Fail_eq, Err_eq, List.length_map]
    unfold pall
    by_cases h0 : l = []
    · subst h0
      rw [if_pos rfl, if_neg (by simp)]
    · have hpos : (l.length : Int) > 0 := by
        have := List.length_pos_iff.2 h0
        omega
      rw [if_neg h0, if_pos hpos]
      by_cases h16 : out.length = 16
      · rw [if_pos h16, if_pos (by omega), if_neg (by omega)]
        rfl
      · rw [if_neg h16, if_neg (by omega)]
        obtain ⟨l', hT, hr⟩ := pTake_eq l hl (k + 1) (by omega)
        rw [hT]
        simp only [Option.bind_some]
        rw [if_pos (by omega)]
        by_cases he : (ptake l).2.2.2 = 0
        · rw [if_pos he, he, hr he]
          have hs := ptake_shorter l
          have := ih (k + 1) (out ++ [((ptake l).1, (ptake l).2.1)]) (ptake l).2.2.1 (by simp; omega) (by simp; omega) (by omega) (by omega)
          rw [List.map_append] at this
          exact this
        · rw [if_neg he]
          simp only [param_All.l0, Left_eq, Option.bind_some, if_neg he, Err_eq]
          rw [if_neg (by omega)]
          rfl
theorem pAll_eq (l : List UInt8) (hl : l.length < 4611686018427387904) (k : Nat) (hk : 60 ≤ k) : param_All.f k (mk l) = some ((pall 17 [] l).1.map p65, (pall 17 [] l).2) := by
  unfold param_All.f octet_New.f
  simp only [Option.bind_some]
  exact pAll_l0 17 k [] l (by simp) (by simp) hl (by omega)
theorem pall_bytes : ∀ (f : Nat) (out : List It) (l : List UInt8), (pall f out l).2 = 0 → (∀ x ∈ out, Valid x) →
    (pall f out l).1.flatMap pbytes = out.flatMap pbytes ++ l ∧ (∀ x ∈ (pall f out l).1, Valid x) ∧ ((pall f out l).1.length ≤ 16 ∨ out.length > 16) := by
  intro f
  induction f with
  | zero =>
    intro out l h hv
    cases h
  | succ f ih =>
    intro out l h hv
    unfold pall at h ⊢
    by_cases h0 : l = []
    · subst h0
      rw [if_pos rfl]
      exact ⟨by simp, hv, by show out.length ≤ 16 ∨ out.length > 16; omega⟩
    · rw [if_neg h0] at h ⊢
      by_cases h16 : out.length = 16
      · rw [if_pos h16] at h
        cases h
      · rw [if_neg h16] at h ⊢
        by_cases he : (ptake l).2.2.2 = 0
        · rw [if_pos he] at h ⊢
          obtain ⟨hb, hvx⟩ := ptake_bytes l he
          obtain ⟨g1, g2, g3⟩ := ih _ _ h (fun x hx => by
            rcases List.mem_append.1 hx with hx | hx
            · exact hv x hx
            · rw [List.mem_singleton.1 hx]; exact hvx)
          refine ⟨?_, g2, ?_⟩
          · rw [g1, List.flatMap_append, List.append_assoc]
            congr 1
            conv =>
              rhs
              rw [hb]
            simp
          · rw [List.length_append, List.length_singleton] at g3
            omega
        · rw [if_neg he] at h
          exact absurd h he
theorem pbytes_ne (x : It) : pbytes x ≠ [] := by
  intro h
  have := congrArg List.length h
  rw [pbytes_eq] at this
  simp [be_length] at this
theorem pall_put : ∀ (xs : List It) (f : Nat) (out : List It), xs.length < f → out.length + xs.length ≤ 16 → (∀ x ∈ xs, Valid x) → pall f out (xs.flatMap pbytes) = (out ++ xs, 0) := by
  intro xs
  induction xs with
  | nil =>
    intro f out hf ho hv
    obtain ⟨f, rfl⟩ : ∃ m, f = m + 1 := ⟨f - 1, by simp at hf; omega⟩
    unfold pall
    simp
  | cons x xs ih =>
    intro f out hf ho hv
    obtain ⟨f, rfl⟩ : ∃ m, f = m + 1 := ⟨f - 1, by simp at hf; omega⟩
    simp only [List.length_cons] at hf ho
    have hx := hv x (by simp)
    unfold pall
    rw [List.flatMap_cons, if_neg (by
      intro h
      exact pbytes_ne x (List.append_eq_nil_iff.1 h).1), if_neg (by omega), ptake_put x hx]
    simp only [if_true]
    rw [ih f (out ++ [x]) (by omega) (by simp; omega) (fun y hy => hv y (by simp [hy]))]
    simp
theorem rAll_l0 : ∀ (f k : Nat) (out : List It) (l : List UInt8), 17 ≤ f + out.length → out.length ≤ 16 → l.length < 4611686018427387904 → 2 * f + 40 ≤ k →
    crosswayref04_All.l0 k (out.map p85) (mk l) 0 = some ((pall f out l).1.map p85, (pall f out l).2) := by
  intro f
  induction f with
  | zero => intro k out l hf ho hl hk; omega
  | succ f ih =>
    intro k out l hf ho hl hk
    obtain ⟨k, rfl⟩ : ∃ m, k = m + 4 := ⟨k - 4, by omega⟩
    simp only [crosswayref04_All.l0, crosswayref04_All.j1, if_true, size_mk, List.length_map]
    unfold pall
    by_cases h0 : l = []
    · subst h0
      rw [if_pos rfl]
      simp
    · have hpos : (l.length : Int) > 0 := by
        have := List.length_pos_iff.2 h0
        omega
      rw [if_neg h0, decide_eq_true hpos, if_pos rfl]
      by_cases h16 : out.length = 16
      · rw [if_pos h16, if_pos (by omega)]
        rfl
      · rw [if_neg h16, if_neg (by omega), rTakeP l hl (k + 2) (by omega)]
        simp only [Option.bind_some]
        rw [if_pos (by omega)]
        by_cases he : (ptake l).2.2.2 = 0
        · rw [if_pos he, he, rf_ok]
          have hs := ptake_shorter l
          have := ih (k + 2) (out ++ [((ptake l).1, (ptake l).2.1)]) (ptake l).2.2.1 (by simp; omega) (by simp; omega) (by omega) (by omega)
          rw [List.map_append] at this
          exact this
        · rw [if_neg he, rf_bad _ he]
          have h0' : ¬ ((ptake l).2.2.2 = 0) := he
          simp only [crosswayref04_All.l0, crosswayref04_All.j1, if_neg h0', Bool.false_eq_true, if_false]
          rfl
theorem rAll_eq (l : List UInt8) (hl : l.length < 4611686018427387904) (k : Nat) (hk : 80 ≤ k) : crosswayref04_All.f k (mk l) = some ((pall 17 [] l).1.map p85, (pall 17 [] l).2) := by
  unfold crosswayref04_All.f
  exact rAll_l0 17 k [] l (by simp) (by simp) hl (by omega)
theorem rd_p65 (xs : List It) (i : Nat) (h : i < xs.length) : rd_T65 (xs.map p65) (i : Int) = p65 xs[i] := by
  unfold rd_T65
  simp [List.getD_eq_getElem?_getD, h]
theorem rd_p85 (xs : List It) (i : Nat) (h : i < xs.length) : rd_T85 (xs.map p85) (i : Int) = p85 xs[i] := by
  unfold rd_T85
  simp [List.getD_eq_getElem?_getD, h]
def p25 (x : It) : S25 := ⟨x.1, mk x.2⟩
theorem rd_p25 (xs : List It) (i : Nat) (h : i < xs.length) : rd_T25 (xs.map p25) (i : Int) = p25 xs[i] := by
  unfold rd_T25
  simp [List.getD_eq_getElem?_getD, h]
theorem pall_err : ∀ (f : Nat) (out : List It) (l : List UInt8), (pall f out l).2 ≠ 0 → (pall f out l).1 = [] := by
  intro f
  induction f with
  | zero => intro out l h; rfl
  | succ f ih =>
    intro out l h
    unfold pall at h ⊢
    split
    · rename_i h0
      rw [if_pos h0] at h
      exact absurd rfl h
    · rename_i h0
      rw [if_neg h0] at h
      split
      · rfl
      · rename_i h1
        rw [if_neg h1] at h
        split
        · rename_i h2
          rw [if_pos h2] at h
          exact ih _ _ h
        · rfl
theorem pall_length (l : List UInt8) : (pall 17 [] l).1.length ≤ 16 := by
  by_cases h : (pall 17 [] l).2 = 0
  · obtain ⟨_, _, g3⟩ := pall_bytes 17 [] l h (fun x hx => by cases hx)
    simpa using g3
  · rw [pall_err 17 [] l h]
    simp
theorem cAll_l0 (xs : List It) (hx : xs.length ≤ 1000) : ∀ (d k i : Nat), xs.length - i = d → i ≤ xs.length → d < k →
    cause_All.l0 k ((xs.take i).map p25) (xs.map p65) (xs.length : Int) (i : Int) = some (xs.map p25, 0) := by
  intro d
  induction d with
  | zero =>
    intro k i hd hi hk
    obtain ⟨k, rfl⟩ : ∃ m, k = m + 1 := ⟨k - 1, by omega⟩
    simp only [cause_All.l0]
    rw [if_neg (by omega), List.take_of_length_le (by omega)]
  | succ d ih =>
    intro k i hd hi hk
    obtain ⟨k, rfl⟩ : ∃ m, k = m + 1 := ⟨k - 1, by omega⟩
    have hlt : i < xs.length := by omega
    simp only [cause_All.l0, List.length_map]
    rw [if_pos (by omega), if_pos (by omega), if_pos (by omega), if_pos (by rw [List.length_take]; omega), rd_p65 xs i hlt, w64 (by omega) (by omega)]
    have := ih k (i + 1) (by omega) (by omega) (by omega)
    rw [List.take_succ_eq_append_getElem hlt, List.map_append] at this
    exact this
theorem cAll_eq (l : List UInt8) (hl : l.length < 4611686018427387904) (k : Nat) (hk : 60 ≤ k) : cause_All.f k (mk l) = some ((pall 17 [] l).1.map p25, (pall 17 [] l).2) := by
  unfold cause_All.f
  rw [pAll_eq l hl k hk]
  simp only [Option.bind_some]
  by_cases h : (pall 17 [] l).2 = 0
  · have hx := pall_length l
    rw [if_pos h, List.length_map, h]
    have := cAll_l0 (pall 17 [] l).1 (by omega) (pall 17 [] l).1.length k 0 (by omega) (by omega) (by omega)
    simpa using this
  · rw [if_neg h, pall_err 17 [] l h]
    rfl
end Go.Proofs.Ytmdncojhnbbafaa.Pm
