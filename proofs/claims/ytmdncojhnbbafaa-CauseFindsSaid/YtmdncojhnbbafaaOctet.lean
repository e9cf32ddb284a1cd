/- What the readers and writers of numbers come to, on lists of bytes; plain, over the printed functions. -/
import Derived.Test.YtmdncojhnbbafaaBytes
import Derived.Test.YtmdncojhnbbafaaPAllx14
import Derived.Test.YtmdncojhnbbafaaPAllx4
import Derived.Test.YtmdncojhnbbafaaPAllx9
import Derived.Test.YtmdncojhnbbafaaPAllx5
import Derived.Test.YtmdncojhnbbafaaPAllx8
import Derived.Test.YtmdncojhnbbafaaPAllx15
import Derived.Test.YtmdncojhnbbafaaPAllx20
import Derived.Test.YtmdncojhnbbafaaPAllx13
import Derived.Test.YtmdncojhnbbafaaPAllx21
import Derived.Test.YtmdncojhnbbafaaPAllx11
namespace Go.Proofs.Ytmdncojhnbbafaa.Oc
open Go Go.RowKit Go.Proofs.YtmdncojhnbbafaaW.PrintWords Go.Proofs.Ytmdncojhnbbafaa.Bt Go.Proofs.Ytmdncojhnbbafaa.PAll
set_option linter.unusedVariables false
set_option linter.unusedSimpArgs false

theorem w64 {n : Int} (h0 : -9223372036854775808 ≤ n) (h1 : n ≤ 9223372036854775807) : wrap64 n = n := by unfold wrap64; omega
theorem wu64 (n : Int) : IntKind.u64.wrap n = n % 18446744073709551616 := by simp [IntKind.wrap, IntKind.bits, IntKind.signed]
theorem tdiv_pos {n m : Int} (h : 0 ≤ n) : Int.tdiv n m = n / m := Int.tdiv_eq_ediv_of_nonneg h
theorem tmod_pos {n m : Int} (h : 0 ≤ n) : Int.tmod n m = n % m := Int.tmod_eq_emod_of_nonneg h
theorem and_nat (k : IntKind) (x : Int) (m j : Nat) (hm : m = 2 ^ j - 1) (hj : j < k.bits) : ((BitVec.ofInt k.bits x &&& BitVec.ofInt k.bits (m : Int)).toNat : Int) = x % 2 ^ j := by
  subst hm
  have hp : 2 ^ j < 2 ^ k.bits := Nat.pow_lt_pow_right (by omega) hj
  have hp0 : 0 < 2 ^ j := Nat.two_pow_pos j
  rw [BitVec.toNat_and]
  have e1 : (BitVec.ofInt k.bits ((2 ^ j - 1 : Nat) : Int)).toNat = 2 ^ j - 1 := by
    rw [BitVec.ofInt_natCast, BitVec.toNat_ofNat]
    exact Nat.mod_eq_of_lt (by omega)
  rw [e1, Nat.and_two_pow_sub_one_eq_mod, BitVec.toNat_ofInt]
  have hz : (0 : Int) ≤ x % ((2 ^ k.bits : Nat) : Int) := Int.emod_nonneg _ (by have := Nat.two_pow_pos k.bits; omega)
  rw [Int.natCast_emod, Int.toNat_of_nonneg hz]
  have hd : ((2 ^ j : Nat) : Int) ∣ ((2 ^ k.bits : Nat) : Int) := Int.ofNat_dvd.2 (Nat.pow_dvd_pow 2 (by omega))
  rw [Int.emod_emod_of_dvd _ hd, Int.natCast_pow]
  rfl
/-- 'x & m', m one less than a power of two. -/
theorem and_i64 (x : Int) (m j : Nat) (hm : m = 2 ^ j - 1) (hj : j ≤ 62) : Go.bits .and .i64 x (m : Int) = x % 2 ^ j := by
  have h := and_nat .i64 x m j hm (by show j < 64; omega)
  unfold Go.bits
  simp only
  rw [h, IntKind.wrap_i64]
  have h0 : (0 : Int) < 2 ^ j := Int.pow_pos (by omega)
  have h1 : (2 : Int) ^ j ≤ 2 ^ 62 := by
    have := Nat.pow_le_pow_right (show 2 > 0 by omega) hj
    exact_mod_cast this
  have h2 : (2 : Int) ^ 62 = 4611686018427387904 := by decide
  have h3 := Int.emod_nonneg x (show (2 : Int) ^ j ≠ 0 by omega)
  have h4 := Int.emod_lt_of_pos x h0
  omega
theorem and_u64 (x : Int) (m j : Nat) (hm : m = 2 ^ j - 1) (hj : j ≤ 63) : Go.bits .and .u64 x (m : Int) = x % 2 ^ j := by
  have h := and_nat .u64 x m j hm (by show j < 64; omega)
  unfold Go.bits
  simp only
  rw [h, wu64]
  have h0 : (0 : Int) < 2 ^ j := Int.pow_pos (by omega)
  have h1 : (2 : Int) ^ j ≤ 2 ^ 63 := by
    have := Nat.pow_le_pow_right (show 2 > 0 by omega) hj
    exact_mod_cast this
  have h2 : (2 : Int) ^ 63 = 9223372036854775808 := by decide
  have h3 := Int.emod_nonneg x (show (2 : Int) ^ j ≠ 0 by omega)
  have h4 := Int.emod_lt_of_pos x h0
  omega
theorem and_u32 (x : Int) (m j : Nat) (hm : m = 2 ^ j - 1) (hj : j ≤ 31) : Go.bits .and .u32 x (m : Int) = x % 2 ^ j := by
  have h := and_nat .u32 x m j hm (by show j < 32; omega)
  unfold Go.bits
  simp only
  rw [h, IntKind.wrap_u32]
  have h0 : (0 : Int) < 2 ^ j := Int.pow_pos (by omega)
  have h1 : (2 : Int) ^ j ≤ 2 ^ 31 := by
    have := Nat.pow_le_pow_right (show 2 > 0 by omega) hj
    exact_mod_cast this
  have h2 : (2 : Int) ^ 31 = 2147483648 := by decide
  have h3 := Int.emod_nonneg x (show (2 : Int) ^ j ≠ 0 by omega)
  have h4 := Int.emod_lt_of_pos x h0
  omega
/-- 'x*256 | b' of a byte. -/
theorem or_byte (x b : Int) (hx0 : 0 ≤ x) (hx : x < 72057594037927936) (hb0 : 0 ≤ b) (hb : b < 256) : Go.bits .or .u64 (x * 256) b = x * 256 + b := by
  obtain ⟨X, rfl⟩ := Int.eq_ofNat_of_zero_le hx0
  obtain ⟨B, rfl⟩ := Int.eq_ofNat_of_zero_le hb0
  unfold Go.bits
  simp only
  have e1 : (BitVec.ofInt IntKind.u64.bits ((X : Int) * 256)).toNat = X * 256 := by
    rw [show ((X : Int) * 256) = ((X * 256 : Nat) : Int) by omega, BitVec.ofInt_natCast, BitVec.toNat_ofNat]
    exact Nat.mod_eq_of_lt (by show _ < 2 ^ 64; omega)
  have e2 : (BitVec.ofInt IntKind.u64.bits (B : Int)).toNat = B := by
    rw [BitVec.ofInt_natCast, BitVec.toNat_ofNat]
    exact Nat.mod_eq_of_lt (by show _ < 2 ^ 64; omega)
  rw [BitVec.toNat_or, e1, e2, wu64]
  have e3 : X * 256 ||| B = X * 256 + B := by
    have := Nat.two_pow_add_eq_or_of_lt (i := 8) (b := B) (by omega) X
    rw [Nat.mul_comm X 256]
    exact this.symm
  rw [e3]
  omega

theorem pow_le {a b : Nat} (h : a ≤ b) : (256 : Int) ^ a ≤ 256 ^ b := by
  have h2 : ((256 ^ a : Nat) : Int) ≤ ((256 ^ b : Nat) : Int) := Int.ofNat_le.2 (Nat.pow_le_pow_right (by omega) h)
  rw [Int.natCast_pow, Int.natCast_pow] at h2
  exact h2
theorem u64_bd {n : Int} (h : (Lit.int .u64 n).wf = true) : 0 ≤ n ∧ n < 18446744073709551616 := by
  simp [Lit.wf, IntKind.min, IntKind.max, IntKind.signed, IntKind.bits] at h
  omega
theorem u32_bd {n : Int} (h : (Lit.int .u32 n).wf = true) : 0 ≤ n ∧ n < 4294967296 := by
  simp [Lit.wf, IntKind.min, IntKind.max, IntKind.signed, IntKind.bits] at h
  omega
theorem i64_bd {n : Int} (h : (Lit.int .i64 n).wf = true) : -9223372036854775808 ≤ n ∧ n ≤ 9223372036854775807 := by
  simp only [Lit.wf, IntKind.min, IntKind.max, IntKind.signed, IntKind.bits, Bool.and_eq_true, decide_eq_true_eq, if_true] at h
  omega
theorem mn_nat (a b : Nat) : mn (a : Int) (b : Int) = ((min a b : Nat) : Int) := by
  unfold mn
  split <;> omega
/-! ### Numbers as bytes -/
theorem U8_eq (n : Int) : octet_U8.f n = some (mk [b8 (n % 256)]) := rfl
theorem be2 (n : Int) : be 2 n = [b8 (n / 256 % 256), b8 (n % 256)] := rfl
theorem be4 (n : Int) : be 4 n = [b8 (n / 16777216 % 256), b8 (n / 65536 % 256), b8 (n / 256 % 256), b8 (n % 256)] := by
  have e1 : n / 256 / 256 = n / 65536 := by omega
  have e2 : n / 65536 / 256 = n / 16777216 := by omega
  simp [be, e1, e2]
theorem be8 (n : Int) : be 8 n = be 4 (n / 4294967296) ++ be 4 n := by
  have e : n / 256 / 256 / 256 / 256 = n / 4294967296 := by omega
  simp [be, e]
theorem U16_eq (n : Int) : octet_U16.f n = some (mk (be 2 n)) := by
  rw [be2]
  rfl
theorem U32_eq (n : Int) : octet_U32.f n = some (mk (be 4 n)) := by
  rw [be4]
  rfl
theorem be4_mod (n : Int) : be 4 (n % 4294967296) = be 4 n := by
  rw [be4, be4]
  have e1 : n % 4294967296 / 16777216 % 256 = n / 16777216 % 256 := by omega
  have e2 : n % 4294967296 / 65536 % 256 = n / 65536 % 256 := by omega
  have e3 : n % 4294967296 / 256 % 256 = n / 256 % 256 := by omega
  have e4 : n % 4294967296 % 256 = n % 256 := by omega
  rw [e1, e2, e3, e4]
theorem U64_eq (n : Int) : octet_U64.f n = some (mk (be 8 n)) := by
  unfold octet_U64.f
  rw [U32_eq, U32_eq]
  simp only [Option.bind_some]
  rw [if_pos (by rw [size_mk, size_mk, be_length, be_length]; omega), mk_append, be4_mod, be4_mod, be8]
theorem Put_eq (b : Nat) : ∀ (k : Nat) (n : Int), b < k → b ≤ 8 → 0 ≤ n → n < 18446744073709551616 → crosswayref03_Put.f k n (b : Int) = some (mk (be b n)) := by
  induction b with
  | zero =>
    intro k n hk hb h0 h1
    obtain ⟨k, rfl⟩ : ∃ m, k = m + 1 := ⟨k - 1, by omega⟩
    simp [crosswayref03_Put.f, be, mk]
  | succ b ih =>
    intro k n hk hb h0 h1
    obtain ⟨k, rfl⟩ : ∃ m, k = m + 1 := ⟨k - 1, by omega⟩
    have e1 : wrap64 (((b + 1 : Nat) : Int) - 1) = (b : Int) := by unfold wrap64; omega
    have e2 : IntKind.u64.wrap (Int.tdiv n 256) = n / 256 := by rw [tdiv_pos h0, wu64]; omega
    simp only [crosswayref03_Put.f]
    rw [if_neg (by omega), e1, e2, ih k _ (by omega) (by omega) (by omega) (by omega)]
    simp only [Option.bind_some]
    rw [strOfNums_mk, if_pos (by rw [size_mk, size_mk, be_length]; simp; omega), mk_append, tmod_pos h0]
    simp [be]

/-! ### Filled up -/
def fills (n : Nat) : Nat := (4 - n % 4) % 4
def fill (l : List UInt8) : List UInt8 := l ++ List.replicate (fills l.length) 0
theorem Pad_eq (n : Nat) (h : n < 4611686018427387904) : octet_Pad.f (n : Int) = some ((fills n : Nat) : Int) := by
  unfold octet_Pad.f
  rw [w64 (by omega) (by omega)]
  have e := and_i64 (-(n : Int)) 3 2 rfl (by omega)
  have e' : Go.bits .and .i64 (-(n : Int)) 3 = (-(n : Int)) % 4 := e
  rw [e']
  unfold fills
  congr 1
  omega
theorem take_zeros (j : Nat) (h : j ≤ 3) : ([0, 0, 0] : List UInt8).take j = List.replicate j 0 := by
  match j, h with
  | 0, _ => rfl
  | 1, _ => rfl
  | 2, _ => rfl
  | 3, _ => rfl
theorem fills_le (n : Nat) : fills n ≤ 3 := by unfold fills; omega
theorem Filled_eq (l : List UInt8) (h : l.length < 4611686018427387904) : octet_Filled.f (mk l) = some (mk (fill l)) := by
  unfold octet_Filled.f
  have hf := fills_le l.length
  rw [size_mk, Pad_eq _ h]
  simp only [Option.bind_some]
  have e : ((⟨#[0, 0, 0]⟩ : ByteArray).extract 0 ((fills l.length : Nat) : Int).toNat) = mk (List.replicate (fills l.length) 0) := by
    show (mk [0, 0, 0]).extract 0 _ = _
    rw [extract_mk, Int.toNat_natCast, take_zeros _ hf]
    rfl
  rw [e, if_pos (by omega), if_pos (by omega), if_pos (by rw [size_mk, List.length_replicate]; omega), mk_append]
  rfl
theorem refFilled_eq : ∀ (d k : Nat) (l : List UInt8), fills l.length = d → d < k → l.length + d < 4611686018427387904 → crosswayref03_Filled.f k (mk l) = some (mk (fill l)) := by
  intro d
  induction d with
  | zero =>
    intro k l hd hk hl
    obtain ⟨k, rfl⟩ : ∃ m, k = m + 1 := ⟨k - 1, by omega⟩
    unfold crosswayref03_Filled.f
    simp only [crosswayref03_Filled.l0]
    rw [size_mk, if_pos (by unfold fills at hd; omega)]
    unfold fill
    rw [hd]
    simp
  | succ d ih =>
    intro k l hd hk hl
    obtain ⟨k, rfl⟩ : ∃ m, k = m + 1 := ⟨k - 1, by omega⟩
    have hn := ih k (l ++ [0]) (by rw [List.length_append, List.length_singleton]; unfold fills at hd ⊢; omega) (by omega) (by rw [List.length_append, List.length_singleton]; omega)
    unfold crosswayref03_Filled.f at hn ⊢
    simp only [crosswayref03_Filled.l0]
    rw [size_mk, if_neg (by unfold fills at hd; omega), if_pos (by omega)]
    have e : mk l ++ (⟨#[0]⟩ : ByteArray) = mk (l ++ [0]) := mk_append l [0]
    rw [e, hn]
    congr 2
    have e2 : fills (l ++ [0]).length = d := by rw [List.length_append, List.length_singleton]; unfold fills at hd ⊢; omega
    unfold fill
    rw [e2, hd, List.append_assoc]
    rfl
theorem refFilled (k : Nat) (l : List UInt8) (hk : 4 ≤ k) (hl : l.length < 4611686018427387900) : crosswayref03_Filled.f k (mk l) = some (mk (fill l)) :=
  refFilled_eq (fills l.length) k l rfl (by
    have := fills_le l.length
    omega) (by
    have := fills_le l.length
    omega)
theorem fill_length (l : List UInt8) : (fill l).length = l.length + fills l.length := by simp [fill]

/-! ### Readers -/
/-- So many bytes of those, with the first error: these, what is left, the error. -/
def tk (l : List UInt8) (e n : Int) : List UInt8 × List UInt8 × Int :=
  if e = 0 ∧ 0 ≤ n ∧ n ≤ l.length then (l.take n.toNat, l.drop n.toNat, 0) else ([], l, if e = 0 then 2 else e)
theorem Fail_eq (l : List UInt8) (e x : Int) : octet_Reader_Fail.f (mk l) e x = some (mk l, if e = 0 then x else e) := by
  unfold octet_Reader_Fail.f
  split <;> rfl
theorem tk_ok {l : List UInt8} {n : Int} (h0 : 0 ≤ n) (h1 : n ≤ l.length) : tk l 0 n = (l.take n.toNat, l.drop n.toNat, 0) := by
  unfold tk
  rw [if_pos ⟨rfl, h0, h1⟩]
theorem tk_bad {l : List UInt8} {e n : Int} (h : ¬ (e = 0 ∧ 0 ≤ n ∧ n ≤ l.length)) : tk l e n = ([], l, if e = 0 then 2 else e) := by
  unfold tk
  rw [if_neg h]
theorem Take_eq (l : List UInt8) (e n : Int) : octet_Reader_Take.f (mk l) e n = some (mk (tk l e n).1, mk (tk l e n).2.1, (tk l e n).2.2) := by
  unfold octet_Reader_Take.f octet_Reader_Err.f
  simp only [Option.bind_some, size_mk, Fail_eq]
  by_cases he : e = 0
  · subst he
    rw [if_pos rfl]
    by_cases h1 : n < 0
    · rw [if_pos h1, tk_bad (by omega)]
      rfl
    · rw [if_neg h1]
      by_cases h2 : n > (l.length : Int)
      · rw [if_pos h2, tk_bad (by omega)]
        rfl
      · rw [if_neg h2, if_pos (by omega), if_pos (by omega), tk_ok (by omega) (by omega), extract_mk, extract_mk]
        simp
  · rw [if_neg he, tk_bad (by omega)]
    simp [mk, if_neg he]
theorem number_l0 (l : List UInt8) (hl : l.length ≤ 8) (a : ByteArray) (b : Int) : ∀ (d k i : Nat), l.length - i = d → i ≤ l.length → d < k →
    octet_Reader_number.l0 k (num (l.take i)) (mk l) (l.length : Int) (i : Int) a b = some (num l, a, b) := by
  intro d
  induction d with
  | zero =>
    intro k i hd hi hk
    obtain ⟨k, rfl⟩ : ∃ m, k = m + 1 := ⟨k - 1, by omega⟩
    simp only [octet_Reader_number.l0]
    rw [if_neg (by omega), List.take_of_length_le (by omega)]
  | succ d ih =>
    intro k i hd hi hk
    obtain ⟨k, rfl⟩ : ∃ m, k = m + 1 := ⟨k - 1, by omega⟩
    have hlt : i < l.length := by omega
    simp only [octet_Reader_number.l0]
    rw [if_pos (by omega), if_pos (by omega), if_pos (by rw [size_mk]; omega), bt_mk]
    have hb := num_bound (l.take i)
    have hle : (256 : Int) ^ (l.take i).length ≤ 256 ^ 7 := pow_le (by rw [List.length_take]; omega)
    have h7 : (256 : Int) ^ 7 = 72057594037927936 := by decide
    have hg : (l.getD (i : Int).toNat 0) = l[i] := by simp [List.getD_eq_getElem?_getD, hlt]
    have hby := (l[i]).toNat_lt
    rw [hg, wu64, wu64, Int.emod_eq_of_lt (by omega) (by omega), Int.emod_eq_of_lt (by omega) (by omega), or_byte _ _ (by omega) (by omega) (by omega) (by omega), ← num_snoc, w64 (by omega) (by omega)]
    have e : l.take i ++ [l[i]] = l.take (i + 1) := by simp
    rw [e]
    exact ih k (i + 1) (by omega) (by omega) (by omega)
theorem number_eq (l : List UInt8) (e n : Int) (k : Nat) (hn : n ≤ 8) (hk : 9 ≤ k) : octet_Reader_number.f k (mk l) e n = some (num (tk l e n).1, mk (tk l e n).2.1, (tk l e n).2.2) := by
  unfold octet_Reader_number.f
  rw [Take_eq]
  simp only [Option.bind_some, size_mk]
  have hl : (tk l e n).1.length ≤ 8 := by
    unfold tk
    split
    · rw [List.length_take]; omega
    · simp
  have := number_l0 (tk l e n).1 hl (mk (tk l e n).2.1) (tk l e n).2.2 (tk l e n).1.length k 0 (by omega) (by omega) (by omega)
  simpa [num] using this
theorem num_tk (l : List UInt8) (e n : Int) (b : Nat) (hb : n = b) : 0 ≤ num (tk l e n).1 ∧ num (tk l e n).1 < 256 ^ b := by
  have h := num_bound (tk l e n).1
  refine ⟨h.1, Int.lt_of_lt_of_le h.2 (pow_le ?_)⟩
  unfold tk
  split
  · rw [List.length_take]; omega
  · simp
theorem rU8_eq (l : List UInt8) (e : Int) (k : Nat) (hk : 9 ≤ k) : octet_Reader_U8.f k (mk l) e = some (num (tk l e 1).1, mk (tk l e 1).2.1, (tk l e 1).2.2) := by
  unfold octet_Reader_U8.f
  rw [number_eq l e 1 k (by omega) hk]
  have := num_tk l e 1 1 rfl
  simp only [Option.bind_some]
  rw [w64 (by omega) (by omega)]
theorem rU16_eq (l : List UInt8) (e : Int) (k : Nat) (hk : 9 ≤ k) : octet_Reader_U16.f k (mk l) e = some (num (tk l e 2).1, mk (tk l e 2).2.1, (tk l e 2).2.2) := by
  unfold octet_Reader_U16.f
  rw [number_eq l e 2 k (by omega) hk]
  have := num_tk l e 2 2 rfl
  simp only [Option.bind_some]
  rw [w64 (by omega) (by omega)]
theorem rU32_eq (l : List UInt8) (e : Int) (k : Nat) (hk : 9 ≤ k) : octet_Reader_U32.f k (mk l) e = some (num (tk l e 4).1, mk (tk l e 4).2.1, (tk l e 4).2.2) := by
  unfold octet_Reader_U32.f
  rw [number_eq l e 4 k (by omega) hk]
  have := num_tk l e 4 4 rfl
  simp only [Option.bind_some]
  rw [Int.emod_eq_of_lt (by omega) (by omega)]
theorem rU64_eq (l : List UInt8) (e : Int) (k : Nat) (hk : 9 ≤ k) : octet_Reader_U64.f k (mk l) e = some (num (tk l e 8).1, mk (tk l e 8).2.1, (tk l e 8).2.2) := by
  unfold octet_Reader_U64.f
  rw [number_eq l e 8 k (by omega) hk]
  rfl
theorem Err_eq (s : ByteArray) (e : Int) : octet_Reader_Err.f s e = some (e, s, e) := rfl
theorem Left_eq (l : List UInt8) (e : Int) : octet_Reader_Left.f (mk l) e = some (if e = 0 then (l.length : Int) else 0, mk l, e) := by
  unfold octet_Reader_Left.f octet_Reader_Err.f
  simp only [Option.bind_some, size_mk]
  split <;> rfl
end Go.Proofs.Ytmdncojhnbbafaa.Oc
