/- Ck3: walks through functions of the program, by the calculus; written by a program of this workplace. -/
import Derived.Test.YtdnkhdkflemkeaaCk2
import Derived.Test.YtdnkhdkflemkeaaVm5
namespace Go.Proofs.Ytdnkhdkflemkeaa.Vt
open Go Go.Proofs Go.Proofs.YtdnkhdkflemkeaaV
set_option maxRecDepth 100000
set_option linter.unusedVariables false
set_option linter.unusedSimpArgs false
theorem beN_inj : ∀ (k : Nat) (l m : List UInt8), l.length = k → m.length = k → beN l = beN m → l = m := by
  intro k
  induction k with
  | zero => intro l m h1 h2 _; rw [List.length_eq_zero_iff.1 h1, List.length_eq_zero_iff.1 h2]
  | succ k ih =>
    intro l m h1 h2 h
    have hl : l ≠ [] := fun e => by rw [e] at h1; cases h1
    have hm : m ≠ [] := fun e => by rw [e] at h2; cases h2
    rw [← List.dropLast_concat_getLast hl, ← List.dropLast_concat_getLast hm] at h ⊢
    rw [beN_snoc, beN_snoc] at h
    have a1 := UInt8.toNat_lt (l.getLast hl)
    have a2 := UInt8.toNat_lt (m.getLast hm)
    have e1 : (l.getLast hl).toNat = (m.getLast hm).toNat := by omega
    have e2 : beN l.dropLast = beN m.dropLast := by omega
    rw [UInt8.toNat_inj.1 e1, ih _ _ (by rw [List.length_dropLast]; omega) (by rw [List.length_dropLast]; omega) e2]
theorem beN_putL : ∀ (k m : Nat), m < 256 ^ k → beN (putL m k) = m
  | 0, m, h => by simp at h; subst h; rfl
  | k + 1, m, h => by
    rw [putL, beN_snoc, beN_putL k (m / 256) (by rw [Nat.pow_succ] at h; omega), UInt8.toNat_ofNat']
    omega
theorem beN_be8 (m : Nat) (h : m < 18446744073709551616) : beN (be8 m) = m := by rw [← putL_8]; exact beN_putL 8 m h
theorem beN_be4 (x : BitVec 32) : beN (be4 x) = x.toNat := by
  have h := beN_putL 4 x.toNat x.isLt
  rwa [putL_4, ofNat_toNat32] at h
theorem beN_be2 (m : Nat) (h : m < 65536) : beN (be2 m) = m := by rw [← putL_2]; exact beN_putL 2 m h
theorem at_app {s : ByteArray} {A X B : List UInt8} {p k : Nat} (h : L s = A ++ (X ++ B)) (hp : A.length = p) (hk : X.length = k) : at_ s p k = beN X := by
  subst hp; subst hk
  rw [at_, h, List.drop_left, List.take_left]
theorem ext_app {s t : ByteArray} {A B : List UInt8} {p q : Nat} (h : L s = A ++ (L t ++ B)) (hp : A.length = p) (hq : p + t.size = q) : s.extract p q = t := by
  subst hp; subst hq
  apply L_ext
  rw [L_extract, h, List.drop_left, Nat.add_sub_cancel_left, ← L_len t, List.take_left]
def toI (c : Ck) : CkI := ⟨(c.made : Int), c.mine, c.yours, c.mt, c.yt, c.peer, c.loc, (c.pp : Int), (c.mp : Int), c.rwnd, (c.ou : Int), (c.inn : Int), c.tm, c.ty, c.mr, c.rn⟩
def ckN (s : ByteArray) : Ck := ⟨at_ s 0 8, w32 s 8, w32 s 12, w32 s 16, w32 s 20, w32 s 24, w32 s 28, at_ s 32 2, at_ s 34 2, w32 s 36, at_ s 40 2, at_ s 42 2, w32 s 44, w32 s 48, s.extract 52 (52 + 16), s.extract 68 (68 + 16)⟩
theorem putL_beN (k : Nat) (l : List UInt8) (h : l.length = k) : putL (beN l) k = l := beN_inj k _ _ (putL_len k _) h (beN_putL k _ (by rw [← h]; exact beN_lt l))
theorem cut_len {s : ByteArray} {p k : Nat} (h : p + k ≤ s.size) : (((L s).drop p).take k).length = k := by rw [List.length_take, List.length_drop, L_len]; omega
theorem be8_at {s : ByteArray} {p : Nat} (h : p + 8 ≤ s.size) : be8 (at_ s p 8) = ((L s).drop p).take 8 := by rw [← putL_8]; exact putL_beN 8 _ (cut_len h)
theorem be4_at {s : ByteArray} {p : Nat} (h : p + 4 ≤ s.size) : be4 (w32 s p) = ((L s).drop p).take 4 := by rw [w32, ← putL_4]; exact putL_beN 4 _ (cut_len h)
theorem be2_at {s : ByteArray} {p : Nat} (h : p + 2 ≤ s.size) : be2 (at_ s p 2) = ((L s).drop p).take 2 := by rw [← putL_2]; exact putL_beN 2 _ (cut_len h)
theorem tk (l : List UInt8) (p k q : Nat) (h : p + k = q) : l.take p ++ (l.drop p).take k = l.take q := by rw [← h, List.take_add]
theorem tkx (s : ByteArray) (p k q : Nat) (h : p + k = q) : (L s).take p ++ L (s.extract p q) = (L s).take q := by rw [L_extract, ← h, Nat.add_sub_cancel_left, ← List.take_add]
theorem ckN_own (c : Ck) (h : MayN c) (hm : c.made < 9223372036854775808) : ckN (bstr (ckB c)) = c := by
  have hmr : (L c.mr).length = 16 := by unfold MayN at h; rw [L_len]; omega
  have hrn : (L c.rn).length = 16 := by unfold MayN at h; rw [L_len]; omega
  have hmr' : c.mr.size = 16 := by unfold MayN at h; omega
  have hrn' : c.rn.size = 16 := by unfold MayN at h; omega
  have hw : c.pp < 65536 ∧ c.mp < 65536 ∧ c.ou < 65536 ∧ c.inn < 65536 := by unfold MayN at h; omega
  have e0 : at_ (bstr (ckB c)) 0 8 = c.made := (at_app (A := []) (X := be8 c.made) (B := be4 c.mine ++ be4 c.yours ++ be4 c.mt ++ be4 c.yt ++ be4 c.peer ++ be4 c.loc ++ be2 c.pp ++ be2 c.mp ++ be4 c.rwnd ++ be2 c.ou ++ be2 c.inn ++ be4 c.tm ++ be4 c.ty ++ L c.mr ++ L c.rn) (by rw [L_bstr]; simp only [ckB, List.append_assoc, List.nil_append, List.append_nil]) (by simp only [List.length_append, List.length_nil, be8_len, be4_len, be2_len, hmr]) (be8_len _)).trans (beN_be8 _ (by omega))
  have e1 : w32 (bstr (ckB c)) 8 = c.mine := (congrArg (BitVec.ofNat 32) ((at_app (A := be8 c.made) (X := be4 c.mine) (B := be4 c.yours ++ be4 c.mt ++ be4 c.yt ++ be4 c.peer ++ be4 c.loc ++ be2 c.pp ++ be2 c.mp ++ be4 c.rwnd ++ be2 c.ou ++ be2 c.inn ++ be4 c.tm ++ be4 c.ty ++ L c.mr ++ L c.rn) (by rw [L_bstr]; simp only [ckB, List.append_assoc, List.nil_append, List.append_nil]) (by simp only [List.length_append, List.length_nil, be8_len, be4_len, be2_len, hmr]) (be4_len _)).trans (beN_be4 _))).trans (ofNat_toNat32 _)
  have e2 : w32 (bstr (ckB c)) 12 = c.yours := (congrArg (BitVec.ofNat 32) ((at_app (A := be8 c.made ++ be4 c.mine) (X := be4 c.yours) (B := be4 c.mt ++ be4 c.yt ++ be4 c.peer ++ be4 c.loc ++ be2 c.pp ++ be2 c.mp ++ be4 c.rwnd ++ be2 c.ou ++ be2 c.inn ++ be4 c.tm ++ be4 c.ty ++ L c.mr ++ L c.rn) (by rw [L_bstr]; simp only [ckB, List.append_assoc, List.nil_append, List.append_nil]) (by simp only [List.length_append, List.length_nil, be8_len, be4_len, be2_len, hmr]) (be4_len _)).trans (beN_be4 _))).trans (ofNat_toNat32 _)
  have e3 : w32 (bstr (ckB c)) 16 = c.mt := (congrArg (BitVec.ofNat 32) ((at_app (A := be8 c.made ++ be4 c.mine ++ be4 c.yours) (X := be4 c.mt) (B := be4 c.yt ++ be4 c.peer ++ be4 c.loc ++ be2 c.pp ++ be2 c.mp ++ be4 c.rwnd ++ be2 c.ou ++ be2 c.inn ++ be4 c.tm ++ be4 c.ty ++ L c.mr ++ L c.rn) (by rw [L_bstr]; simp only [ckB, List.append_assoc, List.nil_append, List.append_nil]) (by simp only [List.length_append, List.length_nil, be8_len, be4_len, be2_len, hmr]) (be4_len _)).trans (beN_be4 _))).trans (ofNat_toNat32 _)
  have e4 : w32 (bstr (ckB c)) 20 = c.yt := (congrArg (BitVec.ofNat 32) ((at_app (A := be8 c.made ++ be4 c.mine ++ be4 c.yours ++ be4 c.mt) (X := be4 c.yt) (B := be4 c.peer ++ be4 c.loc ++ be2 c.pp ++ be2 c.mp ++ be4 c.rwnd ++ be2 c.ou ++ be2 c.inn ++ be4 c.tm ++ be4 c.ty ++ L c.mr ++ L c.rn) (by rw [L_bstr]; simp only [ckB, List.append_assoc, List.nil_append, List.append_nil]) (by simp only [List.length_append, List.length_nil, be8_len, be4_len, be2_len, hmr]) (be4_len _)).trans (beN_be4 _))).trans (ofNat_toNat32 _)
  have e5 : w32 (bstr (ckB c)) 24 = c.peer := (congrArg (BitVec.ofNat 32) ((at_app (A := be8 c.made ++ be4 c.mine ++ be4 c.yours ++ be4 c.mt ++ be4 c.yt) (X := be4 c.peer) (B := be4 c.loc ++ be2 c.pp ++ be2 c.mp ++ be4 c.rwnd ++ be2 c.ou ++ be2 c.inn ++ be4 c.tm ++ be4 c.ty ++ L c.mr ++ L c.rn) (by rw [L_bstr]; simp only [ckB, List.append_assoc, List.nil_append, List.append_nil]) (by simp only [List.length_append, List.length_nil, be8_len, be4_len, be2_len, hmr]) (be4_len _)).trans (beN_be4 _))).trans (ofNat_toNat32 _)
  have e6 : w32 (bstr (ckB c)) 28 = c.loc := (congrArg (BitVec.ofNat 32) ((at_app (A := be8 c.made ++ be4 c.mine ++ be4 c.yours ++ be4 c.mt ++ be4 c.yt ++ be4 c.peer) (X := be4 c.loc) (B := be2 c.pp ++ be2 c.mp ++ be4 c.rwnd ++ be2 c.ou ++ be2 c.inn ++ be4 c.tm ++ be4 c.ty ++ L c.mr ++ L c.rn) (by rw [L_bstr]; simp only [ckB, List.append_assoc, List.nil_append, List.append_nil]) (by simp only [List.length_append, List.length_nil, be8_len, be4_len, be2_len, hmr]) (be4_len _)).trans (beN_be4 _))).trans (ofNat_toNat32 _)
  have e7 : at_ (bstr (ckB c)) 32 2 = c.pp := (at_app (A := be8 c.made ++ be4 c.mine ++ be4 c.yours ++ be4 c.mt ++ be4 c.yt ++ be4 c.peer ++ be4 c.loc) (X := be2 c.pp) (B := be2 c.mp ++ be4 c.rwnd ++ be2 c.ou ++ be2 c.inn ++ be4 c.tm ++ be4 c.ty ++ L c.mr ++ L c.rn) (by rw [L_bstr]; simp only [ckB, List.append_assoc, List.nil_append, List.append_nil]) (by simp only [List.length_append, List.length_nil, be8_len, be4_len, be2_len, hmr]) (be2_len _)).trans (beN_be2 _ (by omega))
  have e8 : at_ (bstr (ckB c)) 34 2 = c.mp := (at_app (A := be8 c.made ++ be4 c.mine ++ be4 c.yours ++ be4 c.mt ++ be4 c.yt ++ be4 c.peer ++ be4 c.loc ++ be2 c.pp) (X := be2 c.mp) (B := be4 c.rwnd ++ be2 c.ou ++ be2 c.inn ++ be4 c.tm ++ be4 c.ty ++ L c.mr ++ L c.rn) (by rw [L_bstr]; simp only [ckB, List.append_assoc, List.nil_append, List.append_nil]) (by simp only [List.length_append, List.length_nil, be8_len, be4_len, be2_len, hmr]) (be2_len _)).trans (beN_be2 _ (by omega))
  have e9 : w32 (bstr (ckB c)) 36 = c.rwnd := (congrArg (BitVec.ofNat 32) ((at_app (A := be8 c.made ++ be4 c.mine ++ be4 c.yours ++ be4 c.mt ++ be4 c.yt ++ be4 c.peer ++ be4 c.loc ++ be2 c.pp ++ be2 c.mp) (X := be4 c.rwnd) (B := be2 c.ou ++ be2 c.inn ++ be4 c.tm ++ be4 c.ty ++ L c.mr ++ L c.rn) (by rw [L_bstr]; simp only [ckB, List.append_assoc, List.nil_append, List.append_nil]) (by simp only [List.length_append, List.length_nil, be8_len, be4_len, be2_len, hmr]) (be4_len _)).trans (beN_be4 _))).trans (ofNat_toNat32 _)
  have e10 : at_ (bstr (ckB c)) 40 2 = c.ou := (at_app (A := be8 c.made ++ be4 c.mine ++ be4 c.yours ++ be4 c.mt ++ be4 c.yt ++ be4 c.peer ++ be4 c.loc ++ be2 c.pp ++ be2 c.mp ++ be4 c.rwnd) (X := be2 c.ou) (B := be2 c.inn ++ be4 c.tm ++ be4 c.ty ++ L c.mr ++ L c.rn) (by rw [L_bstr]; simp only [ckB, List.append_assoc, List.nil_append, List.append_nil]) (by simp only [List.length_append, List.length_nil, be8_len, be4_len, be2_len, hmr]) (be2_len _)).trans (beN_be2 _ (by omega))
  have e11 : at_ (bstr (ckB c)) 42 2 = c.inn := (at_app (A := be8 c.made ++ be4 c.mine ++ be4 c.yours ++ be4 c.mt ++ be4 c.yt ++ be4 c.peer ++ be4 c.loc ++ be2 c.pp ++ be2 c.mp ++ be4 c.rwnd ++ be2 c.ou) (X := be2 c.inn) (B := be4 c.tm ++ be4 c.ty ++ L c.mr ++ L c.rn) (by rw [L_bstr]; simp only [ckB, List.append_assoc, List.nil_append, List.append_nil]) (by simp only [List.length_append, List.length_nil, be8_len, be4_len, be2_len, hmr]) (be2_len _)).trans (beN_be2 _ (by omega))
  have e12 : w32 (bstr (ckB c)) 44 = c.tm := (congrArg (BitVec.ofNat 32) ((at_app (A := be8 c.made ++ be4 c.mine ++ be4 c.yours ++ be4 c.mt ++ be4 c.yt ++ be4 c.peer ++ be4 c.loc ++ be2 c.pp ++ be2 c.mp ++ be4 c.rwnd ++ be2 c.ou ++ be2 c.inn) (X := be4 c.tm) (B := be4 c.ty ++ L c.mr ++ L c.rn) (by rw [L_bstr]; simp only [ckB, List.append_assoc, List.nil_append, List.append_nil]) (by simp only [List.length_append, List.length_nil, be8_len, be4_len, be2_len, hmr]) (be4_len _)).trans (beN_be4 _))).trans (ofNat_toNat32 _)
  have e13 : w32 (bstr (ckB c)) 48 = c.ty := (congrArg (BitVec.ofNat 32) ((at_app (A := be8 c.made ++ be4 c.mine ++ be4 c.yours ++ be4 c.mt ++ be4 c.yt ++ be4 c.peer ++ be4 c.loc ++ be2 c.pp ++ be2 c.mp ++ be4 c.rwnd ++ be2 c.ou ++ be2 c.inn ++ be4 c.tm) (X := be4 c.ty) (B := L c.mr ++ L c.rn) (by rw [L_bstr]; simp only [ckB, List.append_assoc, List.nil_append, List.append_nil]) (by simp only [List.length_append, List.length_nil, be8_len, be4_len, be2_len, hmr]) (be4_len _)).trans (beN_be4 _))).trans (ofNat_toNat32 _)
  have e14 : (bstr (ckB c)).extract 52 (52 + 16) = c.mr := ext_app (A := be8 c.made ++ be4 c.mine ++ be4 c.yours ++ be4 c.mt ++ be4 c.yt ++ be4 c.peer ++ be4 c.loc ++ be2 c.pp ++ be2 c.mp ++ be4 c.rwnd ++ be2 c.ou ++ be2 c.inn ++ be4 c.tm ++ be4 c.ty) (t := c.mr) (B := L c.rn) (by rw [L_bstr]; simp only [ckB, List.append_assoc, List.nil_append, List.append_nil]) (by simp only [List.length_append, List.length_nil, be8_len, be4_len, be2_len, hmr]) (by omega)
  have e15 : (bstr (ckB c)).extract 68 (68 + 16) = c.rn := ext_app (A := be8 c.made ++ be4 c.mine ++ be4 c.yours ++ be4 c.mt ++ be4 c.yt ++ be4 c.peer ++ be4 c.loc ++ be2 c.pp ++ be2 c.mp ++ be4 c.rwnd ++ be2 c.ou ++ be2 c.inn ++ be4 c.tm ++ be4 c.ty ++ L c.mr) (t := c.rn) (B := []) (by rw [L_bstr]; simp only [ckB, List.append_assoc, List.nil_append, List.append_nil]) (by simp only [List.length_append, List.length_nil, be8_len, be4_len, be2_len, hmr]) (by omega)
  unfold ckN
  rw [e0, e1, e2, e3, e4, e5, e6, e7, e8, e9, e10, e11, e12, e13, e14, e15]
theorem ckB_N (s : ByteArray) (hz : s.size = 84) : bstr (ckB (ckN s)) = s := by
  apply L_ext
  rw [L_bstr]
  unfold ckB ckN
  simp only
  rw [be8_at (p := 0) (by omega), be4_at (p := 8) (by omega), be4_at (p := 12) (by omega), be4_at (p := 16) (by omega), be4_at (p := 20) (by omega), be4_at (p := 24) (by omega), be4_at (p := 28) (by omega), be2_at (p := 32) (by omega), be2_at (p := 34) (by omega), be4_at (p := 36) (by omega), be2_at (p := 40) (by omega), be2_at (p := 42) (by omega), be4_at (p := 44) (by omega), be4_at (p := 48) (by omega), List.drop_zero, tk _ 8 4 12 rfl, tk _ 12 4 16 rfl, tk _ 16 4 20 rfl, tk _ 20 4 24 rfl, tk _ 24 4 28 rfl, tk _ 28 4 32 rfl, tk _ 32 2 34 rfl, tk _ 34 2 36 rfl, tk _ 36 4 40 rfl, tk _ 40 2 42 rfl, tk _ 42 2 44 rfl, tk _ 44 4 48 rfl, tk _ 48 4 52 rfl, tkx s 52 16 (52 + 16) rfl, tkx s 68 16 (68 + 16) rfl, List.take_of_length_le (by rw [L_len]; omega)]
theorem ckOf_N (s : ByteArray) (h : MayI (ckOf s)) : ckOf s = toI (ckN s) ∧ MayN (ckN s) ∧ (ckN s).made < 9223372036854775808 := by
  have h1 := at_lt s 0 8
  have h2 : 0 ≤ IntKind.wrap .i64 ((at_ s 0 8 : Nat) : Int) := h.1
  have h3 : IntKind.wrap .i64 ((at_ s 0 8 : Nat) : Int) = ((at_ s 0 8 : Nat) : Int) ∧ at_ s 0 8 < 9223372036854775808 := by
    rw [IntKind.wrap_i64] at *
    omega
  refine ⟨?_, ?_, h3.2⟩
  · unfold ckOf toI ckN
    simp only
    rw [h3.1]
  · unfold MayI ckOf at h
    unfold MayN ckN
    simp only at h ⊢
    omega
theorem mayI_toI (c : CkI) (h : MayI c) (hm : c.made < 9223372036854775808) : ∃ d : Ck, c = toI d ∧ MayN d ∧ d.made < 9223372036854775808 := by
  unfold MayI at h
  refine ⟨⟨c.made.toNat, c.mine, c.yours, c.mt, c.yt, c.peer, c.loc, c.pp.toNat, c.mp.toNat, c.rwnd, c.ou.toNat, c.inn.toNat, c.tm, c.ty, c.mr, c.rn⟩, ?_, ?_, ?_⟩
  · obtain ⟨h0, _, _, ⟨h1, _⟩, ⟨h2, _⟩, ⟨h3, _⟩, ⟨h4, _⟩, _, _⟩ := h
    unfold toI
    simp only
    rw [Int.toNat_of_nonneg h0, Int.toNat_of_nonneg h1, Int.toNat_of_nonneg h2, Int.toNat_of_nonneg h3, Int.toNat_of_nonneg h4]
  · unfold MayN
    simp only
    omega
  · show c.made.toNat < _
    omega
theorem mayI_N (c : Ck) (h : MayN c) : MayI (toI c) := by
  unfold MayN at h
  unfold MayI toI
  simp only
  omega
def rnd (s : ByteArray) : ByteArray := (s ++ ByteArray.mk #[48, 49, 50, 51, 52, 53, 54, 55, 56, 57, 97, 98, 99, 100, 101, 102]).extract 0 16
theorem rnd_size (s : ByteArray) : (rnd s).size = 16 := by
  unfold rnd
  rw [size_cut _ _ _ (by rw [ByteArray.size_append]; exact Nat.le_add_left 16 s.size)]
abbrev xCk31 (s : ByteArray) : List Value := [(.int .i64 (((ckN (s.extract 0 (s.size - 20))).made : Nat) : Int)), (W (ckN (s.extract 0 (s.size - 20))).mine), (W (ckN (s.extract 0 (s.size - 20))).yours), (W (ckN (s.extract 0 (s.size - 20))).mt), (W (ckN (s.extract 0 (s.size - 20))).yt), (W (ckN (s.extract 0 (s.size - 20))).peer), (W (ckN (s.extract 0 (s.size - 20))).loc), (.int .i64 (((ckN (s.extract 0 (s.size - 20))).pp : Nat) : Int)), (.int .i64 (((ckN (s.extract 0 (s.size - 20))).mp : Nat) : Int)), (W (ckN (s.extract 0 (s.size - 20))).rwnd), (.int .i64 (((ckN (s.extract 0 (s.size - 20))).ou : Nat) : Int)), (.int .i64 (((ckN (s.extract 0 (s.size - 20))).inn : Nat) : Int)), (W (ckN (s.extract 0 (s.size - 20))).tm), (W (ckN (s.extract 0 (s.size - 20))).ty), (.string (ckN (s.extract 0 (s.size - 20))).mr), (.string (ckN (s.extract 0 (s.size - 20))).rn)]
abbrev xCk32 : List Value := [(.int .i64 0), (.int .u32 0), (.int .u32 0), (.int .u32 0), (.int .u32 0), (.int .u32 0), (.int .u32 0), (.int .i64 0), (.int .i64 0), (.int .u32 0), (.int .i64 0), (.int .i64 0), (.int .u32 0), (.int .u32 0), (.string ByteArray.empty), (.string ByteArray.empty)]
abbrev xCk33 (key : ByteArray) (s : ByteArray) : List Value := [(.string key), (.string (s.extract 0 (s.size - 20))), (.string (s.extract (s.size - 20) s.size))]
theorem s21 {σ : Store} (s : ByteArray) (hs : s.size < 9223372036854775000)   : PS Try.prog noDen 21 [(.string s)] σ (.string (rnd s)) := by
 refine PS.body (E := env) env_ok rfl rfl (by show _ ≤ _; exact of_decide_eq_true (by kernel_rfl)) (fun n hd => ?_)
 refine RA.seq hd ?_
 refine RA.region env_ok ?_
 refine OA.pure (dst := (some 2)) (v := (.string (ByteArray.mk #[]))) rfl rfl rfl rfl ?_
 refine OA.nil ?_
 intro _
 refine RA.seq hd ?_
 refine RA.region env_ok ?_
 refine OA.pure (dst := (some 3)) (v := (.string s)) rfl rfl rfl rfl ?_
 refine OA.pure (dst := (some 4)) (v := (.string (s ++ (ByteArray.mk #[48, 49, 50, 51, 52, 53, 54, 55, 56, 57, 97, 98, 99, 100, 101, 102])))) rfl rfl rfl (r_cat rfl rfl rfl (by (try simp only [ByteArray.size_append, bstr_size, size_lit, List.size_toArray, List.length_cons, List.length_nil, List.length_take, List.length_drop, List.length_replicate]); try omega)) ?_
 refine OA.pure (dst := (some 5)) (v := (.string (rnd s))) rfl rfl rfl (r_cut (a := 0) (b := 16) rfl rfl (fun _ => rfl) (fun _ => rfl) rfl rfl rfl rfl (by omega) (by rw [ByteArray.size_append]; exact Nat.le_add_left 16 s.size) rfl) ?_
 refine OA.pure (dst := (some 2)) (v := (.string (rnd s))) rfl rfl rfl rfl ?_
 refine OA.nil ?_
 intro _
 refine RA.ret env_ok ?_
 refine ⟨.inr rfl, [(.string (rnd s))], (resL_cons rfl resL_nil), rfl, (fun i hi => by cases hi)⟩

theorem s47N {σ : Store} (s : ByteArray) (hs : s.size < 4294967296) (hz : s.size = 84) (h : MayI (ckOf s)) : PS Try.prog noDen 47 [(.string s)] σ (.tuple #[(.agg ⟨[(.int .i64 (((ckN s).made : Nat) : Int)), (W (ckN s).mine), (W (ckN s).yours), (W (ckN s).mt), (W (ckN s).yt), (W (ckN s).peer), (W (ckN s).loc), (.int .i64 (((ckN s).pp : Nat) : Int)), (.int .i64 (((ckN s).mp : Nat) : Int)), (W (ckN s).rwnd), (.int .i64 (((ckN s).ou : Nat) : Int)), (.int .i64 (((ckN s).inn : Nat) : Int)), (W (ckN s).tm), (W (ckN s).ty), (.string (ckN s).mr), (.string (ckN s).rn)]⟩), .int .i64 0]) := by
  have h1 := s47 (σ := σ) s hs hz h
  rw [(ckOf_N s h).1] at h1
  exact h1

theorem gA {σ : Store} (key s : ByteArray) (hk : key.size < 4294967296) (hs : s.size < 2147483648) (now : Int) (hnow : -9223372036854775808 ≤ now ∧ now ≤ 9223372036854775807) (hz : s.size < 20)   : PS Try.prog noDen 28 [(.string key), (.string s), (.int .i64 now)] σ (.tuple #[(.agg ⟨[(.int .i64 0), (.int .u32 0), (.int .u32 0), (.int .u32 0), (.int .u32 0), (.int .u32 0), (.int .u32 0), (.int .i64 0), (.int .i64 0), (.int .u32 0), (.int .i64 0), (.int .i64 0), (.int .u32 0), (.int .u32 0), (.string ByteArray.empty), (.string ByteArray.empty)]⟩), .int .i64 0, .int .i64 2]) := by
 refine PS.body (E := env) env_ok rfl rfl (by show _ ≤ _; exact of_decide_eq_true (by kernel_rfl)) (fun n hd => ?_)
 refine RA.seq hd ?_
 refine RA.region env_ok ?_
 refine OA.op1 (dst := (some 6)) (v := (Pt n 0 0)) (n1 := (n + 1)) (w := (n, some ⟨[xCk32], 16, 35, true⟩)) rfl rfl rfl rfl (by omega) ?_
 refine OA.pure (dst := (some 7)) (v := (.int .i64 0)) rfl rfl rfl rfl ?_
 refine OA.pure (dst := (some 8)) (v := (.int .i64 0)) rfl rfl rfl rfl ?_
 refine OA.nil ?_
 intro _
 refine RA.seq hd ?_
 refine RA.region env_ok ?_
 refine OA.pure (dst := (some 12)) (v := (.string s)) rfl rfl rfl rfl ?_
 refine OA.pure (dst := (some 13)) (v := (.int .i64 ((s.size : Nat) : Int))) rfl rfl rfl rfl ?_
 refine OA.pure (dst := (some 14)) (v := (.int .i64 ((s.size : Int) - 20))) rfl rfl rfl (r_bin rfl rfl rfl (b_sub (i64_eq (by omega)))) ?_
 refine OA.pure (dst := (some 9)) (v := (.int .i64 ((s.size : Int) - 20))) rfl rfl rfl rfl ?_
 refine OA.nil ?_
 intro _
 refine RA.seq hd ?_
 refine RA.seq hd ?_
 refine RA.region env_ok ?_
 refine OA.pure (dst := (some 15)) (v := (.int .i64 ((s.size : Int) - 20))) rfl rfl rfl rfl ?_
 by_cases hc1 : ((s.size : Int) - 20) < 0
 ·
  refine OA.pure (dst := (some 16)) (v := (.bool true)) rfl rfl rfl (Eq.trans (r_bin rfl rfl rfl (b_lss rfl)) (by first | (rw [decide_eq_true hc1]; done) | (rw [decide_eq_true hc1]; rfl))) ?_
  refine OA.nil ?_
  intro _
  refine RA.cond (t := true) rfl (fun hc => ?_) (fun hc => ?_)
  ·
   refine RA.seq hd ?_
   refine RA.region env_ok ?_
   refine OA.pure (dst := (some 17)) (v := (.agg ⟨xCk32⟩)) rfl rfl rfl (by kernel_rfl) ?_
   refine OA.op1 (dst := none) (v := (.tuple #[])) (n1 := (n + 1)) (w := (n, some ⟨[xCk32], 16, 35, true⟩)) rfl rfl rfl (r_store rfl rfl rfl rfl rfl rfl rfl get_here rfl rfl (Nat.le_of_ble_eq_true rfl) rfl) (by omega) ?_
   refine OA.pure (dst := (some 7)) (v := (.int .i64 0)) rfl rfl rfl rfl ?_
   refine OA.pure (dst := (some 8)) (v := (.int .i64 2)) rfl rfl rfl rfl ?_
   refine OA.nil ?_
   intro _
   refine RA.ret env_ok ?_
   refine ⟨.inr rfl, [(.agg ⟨xCk32⟩), (.int .i64 0), (.int .i64 2)], (resL_cons (res_cellA rfl rfl rfl get_here rfl rfl rfl) (resL_cons rfl (resL_cons rfl resL_nil))), rfl, (kc2 (by omega))⟩
  · cases hc
 · exfalso; omega

theorem gB {σ : Store} (key s : ByteArray) (hk : key.size < 4294967296) (hs : s.size < 2147483648) (now : Int) (hnow : -9223372036854775808 ≤ now ∧ now ≤ 9223372036854775807) (hz : 20 ≤ s.size) (hmac : ¬ (s.extract (s.size - 20) s.size) = macF key (s.extract 0 (s.size - 20)))   : PS Try.prog noDen 28 [(.string key), (.string s), (.int .i64 now)] σ (.tuple #[(.agg ⟨[(.int .i64 0), (.int .u32 0), (.int .u32 0), (.int .u32 0), (.int .u32 0), (.int .u32 0), (.int .u32 0), (.int .i64 0), (.int .i64 0), (.int .u32 0), (.int .i64 0), (.int .i64 0), (.int .u32 0), (.int .u32 0), (.string ByteArray.empty), (.string ByteArray.empty)]⟩), .int .i64 0, .int .i64 100]) := by
 refine PS.body (E := env) env_ok rfl rfl (by show _ ≤ _; exact of_decide_eq_true (by kernel_rfl)) (fun n hd => ?_)
 refine RA.seq hd ?_
 refine RA.region env_ok ?_
 refine OA.op1 (dst := (some 6)) (v := (Pt n 0 0)) (n1 := (n + 1)) (w := (n, some ⟨[xCk32], 16, 35, true⟩)) rfl rfl rfl rfl (by omega) ?_
 refine OA.pure (dst := (some 7)) (v := (.int .i64 0)) rfl rfl rfl rfl ?_
 refine OA.pure (dst := (some 8)) (v := (.int .i64 0)) rfl rfl rfl rfl ?_
 refine OA.nil ?_
 intro _
 refine RA.seq hd ?_
 refine RA.region env_ok ?_
 refine OA.pure (dst := (some 12)) (v := (.string s)) rfl rfl rfl rfl ?_
 refine OA.pure (dst := (some 13)) (v := (.int .i64 ((s.size : Nat) : Int))) rfl rfl rfl rfl ?_
 refine OA.pure (dst := (some 14)) (v := (.int .i64 (((s.size - 20) : Nat) : Int))) rfl rfl rfl (r_bin rfl rfl rfl (b_sub (i64_eq (by omega)))) ?_
 refine OA.pure (dst := (some 9)) (v := (.int .i64 (((s.size - 20) : Nat) : Int))) rfl rfl rfl rfl ?_
 refine OA.nil ?_
 intro _
 refine RA.seq hd ?_
 refine RA.seq hd ?_
 refine RA.region env_ok ?_
 refine OA.pure (dst := (some 15)) (v := (.int .i64 (((s.size - 20) : Nat) : Int))) rfl rfl rfl rfl ?_
 by_cases hc1 : (((s.size - 20) : Nat) : Int) < 0
 · exfalso; omega
 ·
  refine OA.pure (dst := (some 16)) (v := (.bool false)) rfl rfl rfl (Eq.trans (r_bin rfl rfl rfl (b_lss rfl)) (by first | (rw [decide_eq_false hc1]; done) | (rw [decide_eq_false hc1]; rfl))) ?_
  refine OA.nil ?_
  intro _
  refine RA.cond (t := false) rfl (fun hc => ?_) (fun hc => ?_)
  · cases hc
  ·
   refine RA.skip env_ok ?_
   intro _
   refine RA.seq hd ?_
   refine RA.seq hd ?_
   refine RA.par (md := [some [], some [], some [], some [], some [], some [], some [], some [], some []]) env_ok (hd.of (by omega) (kb1 (by omega))) (by kernel_rfl) ?_
   refine PQ.pure (dst := (some 18)) (v := (.string key)) rfl rfl rfl noStore (none_ok _ _) rfl ?_
   refine PQ.pure (dst := (some 19)) (v := (.string s)) rfl rfl rfl noStore (none_ok _ _) rfl ?_
   refine PQ.pure (dst := (some 20)) (v := (.int .i64 (((s.size - 20) : Nat) : Int))) rfl rfl rfl noStore (none_ok _ _) rfl ?_
   refine PQ.pure (dst := (some 21)) (v := (.string (s.extract 0 (s.size - 20)))) rfl rfl rfl noStore (none_ok _ _) (r_cut (a := 0) (b := (s.size - 20)) rfl rfl (fun _ => rfl) (fun _ => rfl) rfl rfl rfl bound_nat (by omega) (by omega) rfl) ?_
   refine PQ.pure (dst := (some 22)) (v := (.string s)) rfl rfl rfl noStore (none_ok _ _) rfl ?_
   refine PQ.pure (dst := (some 23)) (v := (.int .i64 (((s.size - 20) : Nat) : Int))) rfl rfl rfl noStore (none_ok _ _) rfl ?_
   refine PQ.pure (dst := (some 24)) (v := (.string (s.extract (s.size - 20) s.size))) rfl rfl rfl noStore (none_ok _ _) (r_cut (a := (s.size - 20)) (b := s.size) rfl rfl (fun _ => rfl) (fun _ => rfl) rfl rfl bound_nat rfl (by omega) (by omega) rfl) ?_
   refine PQ.callP (dst := (some 25)) (all := (xCk33 key s)) (v := (.bool false)) noStore (dom_none _) rfl rfl rfl rfl rfl rfl rfl rfl (none_ok _ _) (PS.to (s20 key (s.extract 0 (s.size - 20)) (s.extract (s.size - 20) s.size) hk (by rw [size_cut _ _ _ (by omega)]; omega)) (congrArg Value.bool (decide_eq_false hmac))) ?_
   intro n1 hn1
   refine PQ.pure (dst := (some 26)) (v := (.bool true)) rfl rfl rfl noStore (none_ok _ _) rfl ?_
   refine PQ.done (d := []) (by kernel_rfl) ?_
   intro _
   refine RA.cond (t := true) rfl (fun hc => ?_) (fun hc => ?_)
   ·
    refine RA.seq hd ?_
    refine RA.region env_ok ?_
    refine OA.pure (dst := (some 27)) (v := (.agg ⟨xCk32⟩)) rfl rfl rfl (by kernel_rfl) ?_
    refine OA.op1 (dst := none) (v := (.tuple #[])) (n1 := n1) (w := (n, some ⟨[xCk32], 16, 35, true⟩)) rfl rfl rfl (r_store rfl rfl rfl rfl rfl rfl rfl get_here rfl rfl (Nat.le_of_ble_eq_true rfl) rfl) (by omega) ?_
    refine OA.pure (dst := (some 7)) (v := (.int .i64 0)) rfl rfl rfl rfl ?_
    refine OA.pure (dst := (some 8)) (v := (.int .i64 100)) rfl rfl rfl rfl ?_
    refine OA.nil ?_
    intro _
    refine RA.ret env_ok ?_
    refine ⟨.inr rfl, [(.agg ⟨xCk32⟩), (.int .i64 0), (.int .i64 100)], (resL_cons (res_cellA rfl rfl rfl get_here rfl rfl rfl) (resL_cons rfl (resL_cons rfl resL_nil))), rfl, (kc2 (by omega))⟩
   · cases hc

theorem gC2 {σ : Store} (key s : ByteArray) (hk : key.size < 4294967296) (hs : s.size < 2147483648) (now : Int) (hnow : -9223372036854775808 ≤ now ∧ now ≤ 9223372036854775807) (hz : 20 ≤ s.size) (hmac : (s.extract (s.size - 20) s.size) = macF key (s.extract 0 (s.size - 20))) (hy : s.size < 104)   : PS Try.prog noDen 28 [(.string key), (.string s), (.int .i64 now)] σ (.tuple #[(.agg ⟨[(.int .i64 0), (.int .u32 0), (.int .u32 0), (.int .u32 0), (.int .u32 0), (.int .u32 0), (.int .u32 0), (.int .i64 0), (.int .i64 0), (.int .u32 0), (.int .i64 0), (.int .i64 0), (.int .u32 0), (.int .u32 0), (.string ByteArray.empty), (.string ByteArray.empty)]⟩), .int .i64 0, .int .i64 2]) := by
 refine PS.body (E := env) env_ok rfl rfl (by show _ ≤ _; exact of_decide_eq_true (by kernel_rfl)) (fun n hd => ?_)
 refine RA.seq hd ?_
 refine RA.region env_ok ?_
 refine OA.op1 (dst := (some 6)) (v := (Pt n 0 0)) (n1 := (n + 1)) (w := (n, some ⟨[xCk32], 16, 35, true⟩)) rfl rfl rfl rfl (by omega) ?_
 refine OA.pure (dst := (some 7)) (v := (.int .i64 0)) rfl rfl rfl rfl ?_
 refine OA.pure (dst := (some 8)) (v := (.int .i64 0)) rfl rfl rfl rfl ?_
 refine OA.nil ?_
 intro _
 refine RA.seq hd ?_
 refine RA.region env_ok ?_
 refine OA.pure (dst := (some 12)) (v := (.string s)) rfl rfl rfl rfl ?_
 refine OA.pure (dst := (some 13)) (v := (.int .i64 ((s.size : Nat) : Int))) rfl rfl rfl rfl ?_
 refine OA.pure (dst := (some 14)) (v := (.int .i64 (((s.size - 20) : Nat) : Int))) rfl rfl rfl (r_bin rfl rfl rfl (b_sub (i64_eq (by omega)))) ?_
 refine OA.pure (dst := (some 9)) (v := (.int .i64 (((s.size - 20) : Nat) : Int))) rfl rfl rfl rfl ?_
 refine OA.nil ?_
 intro _
 refine RA.seq hd ?_
 refine RA.seq hd ?_
 refine RA.region env_ok ?_
 refine OA.pure (dst := (some 15)) (v := (.int .i64 (((s.size - 20) : Nat) : Int))) rfl rfl rfl rfl ?_
 by_cases hc1 : (((s.size - 20) : Nat) : Int) < 0
 · exfalso; omega
 ·
  refine OA.pure (dst := (some 16)) (v := (.bool false)) rfl rfl rfl (Eq.trans (r_bin rfl rfl rfl (b_lss rfl)) (by first | (rw [decide_eq_false hc1]; done) | (rw [decide_eq_false hc1]; rfl))) ?_
  refine OA.nil ?_
  intro _
  refine RA.cond (t := false) rfl (fun hc => ?_) (fun hc => ?_)
  · cases hc
  ·
   refine RA.skip env_ok ?_
   intro _
   refine RA.seq hd ?_
   refine RA.seq hd ?_
   refine RA.par (md := [some [], some [], some [], some [], some [], some [], some [], some [], some []]) env_ok (hd.of (by omega) (kb1 (by omega))) (by kernel_rfl) ?_
   refine PQ.pure (dst := (some 18)) (v := (.string key)) rfl rfl rfl noStore (none_ok _ _) rfl ?_
   refine PQ.pure (dst := (some 19)) (v := (.string s)) rfl rfl rfl noStore (none_ok _ _) rfl ?_
   refine PQ.pure (dst := (some 20)) (v := (.int .i64 (((s.size - 20) : Nat) : Int))) rfl rfl rfl noStore (none_ok _ _) rfl ?_
   refine PQ.pure (dst := (some 21)) (v := (.string (s.extract 0 (s.size - 20)))) rfl rfl rfl noStore (none_ok _ _) (r_cut (a := 0) (b := (s.size - 20)) rfl rfl (fun _ => rfl) (fun _ => rfl) rfl rfl rfl bound_nat (by omega) (by omega) rfl) ?_
   refine PQ.pure (dst := (some 22)) (v := (.string s)) rfl rfl rfl noStore (none_ok _ _) rfl ?_
   refine PQ.pure (dst := (some 23)) (v := (.int .i64 (((s.size - 20) : Nat) : Int))) rfl rfl rfl noStore (none_ok _ _) rfl ?_
   refine PQ.pure (dst := (some 24)) (v := (.string (s.extract (s.size - 20) s.size))) rfl rfl rfl noStore (none_ok _ _) (r_cut (a := (s.size - 20)) (b := s.size) rfl rfl (fun _ => rfl) (fun _ => rfl) rfl rfl bound_nat rfl (by omega) (by omega) rfl) ?_
   refine PQ.callP (dst := (some 25)) (all := (xCk33 key s)) (v := (.bool true)) noStore (dom_none _) rfl rfl rfl rfl rfl rfl rfl rfl (none_ok _ _) (PS.to (s20 key (s.extract 0 (s.size - 20)) (s.extract (s.size - 20) s.size) hk (by rw [size_cut _ _ _ (by omega)]; omega)) (congrArg Value.bool (decide_eq_true hmac))) ?_
   intro n1 hn1
   refine PQ.pure (dst := (some 26)) (v := (.bool false)) rfl rfl rfl noStore (none_ok _ _) rfl ?_
   refine PQ.done (d := []) (by kernel_rfl) ?_
   intro _
   refine RA.cond (t := false) rfl (fun hc => ?_) (fun hc => ?_)
   · cases hc
   ·
    refine RA.skip env_ok ?_
    intro _
    refine RA.seq hd ?_
    refine RA.region env_ok ?_
    refine OA.pure (dst := (some 29)) (v := (.string s)) rfl rfl rfl rfl ?_
    refine OA.pure (dst := (some 30)) (v := (.int .i64 (((s.size - 20) : Nat) : Int))) rfl rfl rfl rfl ?_
    refine OA.pure (dst := (some 31)) (v := (.string (s.extract 0 (s.size - 20)))) rfl rfl rfl (r_cut (a := 0) (b := (s.size - 20)) rfl rfl (fun _ => rfl) (fun _ => rfl) rfl rfl rfl bound_nat (by omega) (by omega) rfl) ?_
    refine OA.callP (dst := (some 32)) (all := [(.string (s.extract 0 (s.size - 20)))]) (v := (.tuple ⟨[(.agg ⟨xCk32⟩), (.int .i64 2)]⟩)) (hd.of (by omega) (kb1 (by omega))) rfl rfl rfl rfl rfl rfl rfl rfl (s47E2 (s.extract 0 (s.size - 20)) (by rw [size_cut _ _ _ (by omega)]; omega) (by rw [size_cut _ _ _ (by omega)]; omega)) ?_
    intro n2 hn2
    refine OA.pure (dst := (some 28)) (v := (.tuple ⟨[(.agg ⟨xCk32⟩), (.int .i64 2)]⟩)) rfl rfl rfl rfl ?_
    refine OA.pure (dst := (some 33)) (v := (.agg ⟨xCk32⟩)) rfl rfl rfl rfl ?_
    refine OA.pure (dst := (some 34)) (v := (.int .i64 2)) rfl rfl rfl rfl ?_
    refine OA.op1 (dst := (some 10)) (v := (Pt n2 0 0)) (n1 := (n2 + 1)) (w := (n2, some ⟨[xCk32], 16, 35, true⟩)) rfl rfl rfl rfl (by omega) ?_
    refine OA.op1 (dst := none) (v := (.tuple #[])) (n1 := (n2 + 1)) (w := (n2, some ⟨[xCk32], 16, 35, true⟩)) rfl rfl rfl (r_store rfl rfl rfl rfl rfl rfl rfl get_here rfl rfl (Nat.le_of_ble_eq_true rfl) rfl) (by omega) ?_
    refine OA.pure (dst := (some 11)) (v := (.int .i64 2)) rfl rfl rfl rfl ?_
    refine OA.nil ?_
    intro _
    refine RA.weaken (D' := [(n2, some ⟨[xCk32], 16, 35, true⟩), (n, some ⟨[xCk32], 16, 35, true⟩)]) hd (Less.of (fac (mm (fun _ => get_here) (fun _ => get_here)) (fac (mm (fun _ => (get_there (by omega) get_here)) (fun _ => (get_there (by omega) (get_there (by omega) get_here)))) fan)) (gone_of (by simp only [goneP, memP, List.cons_append, List.nil_append, true_or, or_true, true_and, and_true, or_false] <;> omega))) ?_
    refine RA.rebase [(0, (.string key)), (1, (.string s)), (2, (.int .i64 now)), (6, (Pt n 0 0)), (7, (.int .i64 0)), (8, (.int .i64 0)), (9, (.int .i64 (((s.size - 20) : Nat) : Int))), (10, (Pt n2 0 0)), (11, (.int .i64 2)), (16, (.bool false)), (26, (.bool false))] ⟨rfl, rfl, rfl, rfl, rfl, rfl, rfl, rfl, rfl, rfl, rfl, trivial⟩ (fun τr3 => ?_)
    refine RA.seq hd ?_
    refine RA.seq hd ?_
    refine RA.region env_ok ?_
    refine OA.pure (dst := (some 35)) (v := (.int .i64 2)) rfl rfl rfl rfl ?_
    refine OA.pure (dst := (some 36)) (v := (.bool true)) rfl rfl rfl (r_bin rfl rfl rfl (b_neq rfl)) ?_
    refine OA.nil ?_
    intro _
    refine RA.cond (t := true) rfl (fun hc => ?_) (fun hc => ?_)
    ·
     refine RA.seq hd ?_
     refine RA.region env_ok ?_
     refine OA.pure (dst := (some 37)) (v := (.agg ⟨xCk32⟩)) rfl rfl rfl (by kernel_rfl) ?_
     refine OA.pure (dst := (some 38)) (v := (.int .i64 2)) rfl rfl rfl rfl ?_
     refine OA.op1 (dst := none) (v := (.tuple #[])) (n1 := (n2 + 1)) (w := (n, some ⟨[xCk32], 16, 35, true⟩)) rfl rfl rfl (r_store rfl rfl rfl rfl rfl rfl rfl (get_there (by omega) get_here) rfl rfl (Nat.le_of_ble_eq_true rfl) rfl) (by omega) ?_
     refine OA.pure (dst := (some 7)) (v := (.int .i64 0)) rfl rfl rfl rfl ?_
     refine OA.pure (dst := (some 8)) (v := (.int .i64 2)) rfl rfl rfl rfl ?_
     refine OA.nil ?_
     intro _
     refine RA.weaken (D' := [(n, some ⟨[xCk32], 16, 35, true⟩), (n2, some ⟨[xCk32], 16, 35, true⟩)]) hd (Less.of (fac (mm (fun _ => get_here) (fun _ => get_here)) (fac (mm (fun _ => (get_there (by omega) get_here)) (fun _ => (get_there (by omega) get_here))) fan)) (gone_of (by simp only [goneP, memP, List.cons_append, List.nil_append, true_or, or_true, true_and, and_true, or_false] <;> omega))) ?_
     refine RA.ret env_ok ?_
     refine ⟨.inr rfl, [(.agg ⟨xCk32⟩), (.int .i64 0), (.int .i64 2)], (resL_cons (res_cellA rfl rfl rfl get_here rfl rfl rfl) (resL_cons rfl (resL_cons rfl resL_nil))), rfl, (kc2 (by omega))⟩
    · cases hc

theorem gC3 {σ : Store} (key s : ByteArray) (hk : key.size < 4294967296) (hs : s.size < 2147483648) (now : Int) (hnow : -9223372036854775808 ≤ now ∧ now ≤ 9223372036854775807) (hz : 20 ≤ s.size) (hmac : (s.extract (s.size - 20) s.size) = macF key (s.extract 0 (s.size - 20))) (hy : 104 < s.size)   : PS Try.prog noDen 28 [(.string key), (.string s), (.int .i64 now)] σ (.tuple #[(.agg ⟨[(.int .i64 0), (.int .u32 0), (.int .u32 0), (.int .u32 0), (.int .u32 0), (.int .u32 0), (.int .u32 0), (.int .i64 0), (.int .i64 0), (.int .u32 0), (.int .i64 0), (.int .i64 0), (.int .u32 0), (.int .u32 0), (.string ByteArray.empty), (.string ByteArray.empty)]⟩), .int .i64 0, .int .i64 3]) := by
 refine PS.body (E := env) env_ok rfl rfl (by show _ ≤ _; exact of_decide_eq_true (by kernel_rfl)) (fun n hd => ?_)
 refine RA.seq hd ?_
 refine RA.region env_ok ?_
 refine OA.op1 (dst := (some 6)) (v := (Pt n 0 0)) (n1 := (n + 1)) (w := (n, some ⟨[xCk32], 16, 35, true⟩)) rfl rfl rfl rfl (by omega) ?_
 refine OA.pure (dst := (some 7)) (v := (.int .i64 0)) rfl rfl rfl rfl ?_
 refine OA.pure (dst := (some 8)) (v := (.int .i64 0)) rfl rfl rfl rfl ?_
 refine OA.nil ?_
 intro _
 refine RA.seq hd ?_
 refine RA.region env_ok ?_
 refine OA.pure (dst := (some 12)) (v := (.string s)) rfl rfl rfl rfl ?_
 refine OA.pure (dst := (some 13)) (v := (.int .i64 ((s.size : Nat) : Int))) rfl rfl rfl rfl ?_
 refine OA.pure (dst := (some 14)) (v := (.int .i64 (((s.size - 20) : Nat) : Int))) rfl rfl rfl (r_bin rfl rfl rfl (b_sub (i64_eq (by omega)))) ?_
 refine OA.pure (dst := (some 9)) (v := (.int .i64 (((s.size - 20) : Nat) : Int))) rfl rfl rfl rfl ?_
 refine OA.nil ?_
 intro _
 refine RA.seq hd ?_
 refine RA.seq hd ?_
 refine RA.region env_ok ?_
 refine OA.pure (dst := (some 15)) (v := (.int .i64 (((s.size - 20) : Nat) : Int))) rfl rfl rfl rfl ?_
 by_cases hc1 : (((s.size - 20) : Nat) : Int) < 0
 · exfalso; omega
 ·
  refine OA.pure (dst := (some 16)) (v := (.bool false)) rfl rfl rfl (Eq.trans (r_bin rfl rfl rfl (b_lss rfl)) (by first | (rw [decide_eq_false hc1]; done) | (rw [decide_eq_false hc1]; rfl))) ?_
  refine OA.nil ?_
  intro _
  refine RA.cond (t := false) rfl (fun hc => ?_) (fun hc => ?_)
  · cases hc
  ·
   refine RA.skip env_ok ?_
   intro _
   refine RA.seq hd ?_
   refine RA.seq hd ?_
   refine RA.par (md := [some [], some [], some [], some [], some [], some [], some [], some [], some []]) env_ok (hd.of (by omega) (kb1 (by omega))) (by kernel_rfl) ?_
   refine PQ.pure (dst := (some 18)) (v := (.string key)) rfl rfl rfl noStore (none_ok _ _) rfl ?_
   refine PQ.pure (dst := (some 19)) (v := (.string s)) rfl rfl rfl noStore (none_ok _ _) rfl ?_
   refine PQ.pure (dst := (some 20)) (v := (.int .i64 (((s.size - 20) : Nat) : Int))) rfl rfl rfl noStore (none_ok _ _) rfl ?_
   refine PQ.pure (dst := (some 21)) (v := (.string (s.extract 0 (s.size - 20)))) rfl rfl rfl noStore (none_ok _ _) (r_cut (a := 0) (b := (s.size - 20)) rfl rfl (fun _ => rfl) (fun _ => rfl) rfl rfl rfl bound_nat (by omega) (by omega) rfl) ?_
   refine PQ.pure (dst := (some 22)) (v := (.string s)) rfl rfl rfl noStore (none_ok _ _) rfl ?_
   refine PQ.pure (dst := (some 23)) (v := (.int .i64 (((s.size - 20) : Nat) : Int))) rfl rfl rfl noStore (none_ok _ _) rfl ?_
   refine PQ.pure (dst := (some 24)) (v := (.string (s.extract (s.size - 20) s.size))) rfl rfl rfl noStore (none_ok _ _) (r_cut (a := (s.size - 20)) (b := s.size) rfl rfl (fun _ => rfl) (fun _ => rfl) rfl rfl bound_nat rfl (by omega) (by omega) rfl) ?_
   refine PQ.callP (dst := (some 25)) (all := (xCk33 key s)) (v := (.bool true)) noStore (dom_none _) rfl rfl rfl rfl rfl rfl rfl rfl (none_ok _ _) (PS.to (s20 key (s.extract 0 (s.size - 20)) (s.extract (s.size - 20) s.size) hk (by rw [size_cut _ _ _ (by omega)]; omega)) (congrArg Value.bool (decide_eq_true hmac))) ?_
   intro n1 hn1
   refine PQ.pure (dst := (some 26)) (v := (.bool false)) rfl rfl rfl noStore (none_ok _ _) rfl ?_
   refine PQ.done (d := []) (by kernel_rfl) ?_
   intro _
   refine RA.cond (t := false) rfl (fun hc => ?_) (fun hc => ?_)
   · cases hc
   ·
    refine RA.skip env_ok ?_
    intro _
    refine RA.seq hd ?_
    refine RA.region env_ok ?_
    refine OA.pure (dst := (some 29)) (v := (.string s)) rfl rfl rfl rfl ?_
    refine OA.pure (dst := (some 30)) (v := (.int .i64 (((s.size - 20) : Nat) : Int))) rfl rfl rfl rfl ?_
    refine OA.pure (dst := (some 31)) (v := (.string (s.extract 0 (s.size - 20)))) rfl rfl rfl (r_cut (a := 0) (b := (s.size - 20)) rfl rfl (fun _ => rfl) (fun _ => rfl) rfl rfl rfl bound_nat (by omega) (by omega) rfl) ?_
    refine OA.callP (dst := (some 32)) (all := [(.string (s.extract 0 (s.size - 20)))]) (v := (.tuple ⟨[(.agg ⟨xCk32⟩), (.int .i64 3)]⟩)) (hd.of (by omega) (kb1 (by omega))) rfl rfl rfl rfl rfl rfl rfl rfl (s47E3 (s.extract 0 (s.size - 20)) (by rw [size_cut _ _ _ (by omega)]; omega) (by rw [size_cut _ _ _ (by omega)]; omega)) ?_
    intro n2 hn2
    refine OA.pure (dst := (some 28)) (v := (.tuple ⟨[(.agg ⟨xCk32⟩), (.int .i64 3)]⟩)) rfl rfl rfl rfl ?_
    refine OA.pure (dst := (some 33)) (v := (.agg ⟨xCk32⟩)) rfl rfl rfl rfl ?_
    refine OA.pure (dst := (some 34)) (v := (.int .i64 3)) rfl rfl rfl rfl ?_
    refine OA.op1 (dst := (some 10)) (v := (Pt n2 0 0)) (n1 := (n2 + 1)) (w := (n2, some ⟨[xCk32], 16, 35, true⟩)) rfl rfl rfl rfl (by omega) ?_
    refine OA.op1 (dst := none) (v := (.tuple #[])) (n1 := (n2 + 1)) (w := (n2, some ⟨[xCk32], 16, 35, true⟩)) rfl rfl rfl (r_store rfl rfl rfl rfl rfl rfl rfl get_here rfl rfl (Nat.le_of_ble_eq_true rfl) rfl) (by omega) ?_
    refine OA.pure (dst := (some 11)) (v := (.int .i64 3)) rfl rfl rfl rfl ?_
    refine OA.nil ?_
    intro _
    refine RA.weaken (D' := [(n2, some ⟨[xCk32], 16, 35, true⟩), (n, some ⟨[xCk32], 16, 35, true⟩)]) hd (Less.of (fac (mm (fun _ => get_here) (fun _ => get_here)) (fac (mm (fun _ => (get_there (by omega) get_here)) (fun _ => (get_there (by omega) (get_there (by omega) get_here)))) fan)) (gone_of (by simp only [goneP, memP, List.cons_append, List.nil_append, true_or, or_true, true_and, and_true, or_false] <;> omega))) ?_
    refine RA.rebase [(0, (.string key)), (1, (.string s)), (2, (.int .i64 now)), (6, (Pt n 0 0)), (7, (.int .i64 0)), (8, (.int .i64 0)), (9, (.int .i64 (((s.size - 20) : Nat) : Int))), (10, (Pt n2 0 0)), (11, (.int .i64 3)), (16, (.bool false)), (26, (.bool false))] ⟨rfl, rfl, rfl, rfl, rfl, rfl, rfl, rfl, rfl, rfl, rfl, trivial⟩ (fun τr3 => ?_)
    refine RA.seq hd ?_
    refine RA.seq hd ?_
    refine RA.region env_ok ?_
    refine OA.pure (dst := (some 35)) (v := (.int .i64 3)) rfl rfl rfl rfl ?_
    refine OA.pure (dst := (some 36)) (v := (.bool true)) rfl rfl rfl (r_bin rfl rfl rfl (b_neq rfl)) ?_
    refine OA.nil ?_
    intro _
    refine RA.cond (t := true) rfl (fun hc => ?_) (fun hc => ?_)
    ·
     refine RA.seq hd ?_
     refine RA.region env_ok ?_
     refine OA.pure (dst := (some 37)) (v := (.agg ⟨xCk32⟩)) rfl rfl rfl (by kernel_rfl) ?_
     refine OA.pure (dst := (some 38)) (v := (.int .i64 3)) rfl rfl rfl rfl ?_
     refine OA.op1 (dst := none) (v := (.tuple #[])) (n1 := (n2 + 1)) (w := (n, some ⟨[xCk32], 16, 35, true⟩)) rfl rfl rfl (r_store rfl rfl rfl rfl rfl rfl rfl (get_there (by omega) get_here) rfl rfl (Nat.le_of_ble_eq_true rfl) rfl) (by omega) ?_
     refine OA.pure (dst := (some 7)) (v := (.int .i64 0)) rfl rfl rfl rfl ?_
     refine OA.pure (dst := (some 8)) (v := (.int .i64 3)) rfl rfl rfl rfl ?_
     refine OA.nil ?_
     intro _
     refine RA.weaken (D' := [(n, some ⟨[xCk32], 16, 35, true⟩), (n2, some ⟨[xCk32], 16, 35, true⟩)]) hd (Less.of (fac (mm (fun _ => get_here) (fun _ => get_here)) (fac (mm (fun _ => (get_there (by omega) get_here)) (fun _ => (get_there (by omega) get_here))) fan)) (gone_of (by simp only [goneP, memP, List.cons_append, List.nil_append, true_or, or_true, true_and, and_true, or_false] <;> omega))) ?_
     refine RA.ret env_ok ?_
     refine ⟨.inr rfl, [(.agg ⟨xCk32⟩), (.int .i64 0), (.int .i64 3)], (resL_cons (res_cellA rfl rfl rfl get_here rfl rfl rfl) (resL_cons rfl (resL_cons rfl resL_nil))), rfl, (kc2 (by omega))⟩
    · cases hc

theorem gD {σ : Store} (key s : ByteArray) (hk : key.size < 4294967296) (hs : s.size < 2147483648) (now : Int) (hnow : -9223372036854775808 ≤ now ∧ now ≤ 9223372036854775807) (hz : s.size = 104) (hmac : (s.extract (s.size - 20) s.size) = macF key (s.extract 0 (s.size - 20))) (hy : ¬ MayI (ckOf (s.extract 0 (s.size - 20))))   : PS Try.prog noDen 28 [(.string key), (.string s), (.int .i64 now)] σ (.tuple #[(.agg ⟨[(.int .i64 0), (.int .u32 0), (.int .u32 0), (.int .u32 0), (.int .u32 0), (.int .u32 0), (.int .u32 0), (.int .i64 0), (.int .i64 0), (.int .u32 0), (.int .i64 0), (.int .i64 0), (.int .u32 0), (.int .u32 0), (.string ByteArray.empty), (.string ByteArray.empty)]⟩), .int .i64 0, .int .i64 3]) := by
 refine PS.body (E := env) env_ok rfl rfl (by show _ ≤ _; exact of_decide_eq_true (by kernel_rfl)) (fun n hd => ?_)
 refine RA.seq hd ?_
 refine RA.region env_ok ?_
 refine OA.op1 (dst := (some 6)) (v := (Pt n 0 0)) (n1 := (n + 1)) (w := (n, some ⟨[xCk32], 16, 35, true⟩)) rfl rfl rfl rfl (by omega) ?_
 refine OA.pure (dst := (some 7)) (v := (.int .i64 0)) rfl rfl rfl rfl ?_
 refine OA.pure (dst := (some 8)) (v := (.int .i64 0)) rfl rfl rfl rfl ?_
 refine OA.nil ?_
 intro _
 refine RA.seq hd ?_
 refine RA.region env_ok ?_
 refine OA.pure (dst := (some 12)) (v := (.string s)) rfl rfl rfl rfl ?_
 refine OA.pure (dst := (some 13)) (v := (.int .i64 ((s.size : Nat) : Int))) rfl rfl rfl rfl ?_
 refine OA.pure (dst := (some 14)) (v := (.int .i64 (((s.size - 20) : Nat) : Int))) rfl rfl rfl (r_bin rfl rfl rfl (b_sub (i64_eq (by omega)))) ?_
 refine OA.pure (dst := (some 9)) (v := (.int .i64 (((s.size - 20) : Nat) : Int))) rfl rfl rfl rfl ?_
 refine OA.nil ?_
 intro _
 refine RA.seq hd ?_
 refine RA.seq hd ?_
 refine RA.region env_ok ?_
 refine OA.pure (dst := (some 15)) (v := (.int .i64 (((s.size - 20) : Nat) : Int))) rfl rfl rfl rfl ?_
 by_cases hc1 : (((s.size - 20) : Nat) : Int) < 0
 · exfalso; omega
 ·
  refine OA.pure (dst := (some 16)) (v := (.bool false)) rfl rfl rfl (Eq.trans (r_bin rfl rfl rfl (b_lss rfl)) (by first | (rw [decide_eq_false hc1]; done) | (rw [decide_eq_false hc1]; rfl))) ?_
  refine OA.nil ?_
  intro _
  refine RA.cond (t := false) rfl (fun hc => ?_) (fun hc => ?_)
  · cases hc
  ·
   refine RA.skip env_ok ?_
   intro _
   refine RA.seq hd ?_
   refine RA.seq hd ?_
   refine RA.par (md := [some [], some [], some [], some [], some [], some [], some [], some [], some []]) env_ok (hd.of (by omega) (kb1 (by omega))) (by kernel_rfl) ?_
   refine PQ.pure (dst := (some 18)) (v := (.string key)) rfl rfl rfl noStore (none_ok _ _) rfl ?_
   refine PQ.pure (dst := (some 19)) (v := (.string s)) rfl rfl rfl noStore (none_ok _ _) rfl ?_
   refine PQ.pure (dst := (some 20)) (v := (.int .i64 (((s.size - 20) : Nat) : Int))) rfl rfl rfl noStore (none_ok _ _) rfl ?_
   refine PQ.pure (dst := (some 21)) (v := (.string (s.extract 0 (s.size - 20)))) rfl rfl rfl noStore (none_ok _ _) (r_cut (a := 0) (b := (s.size - 20)) rfl rfl (fun _ => rfl) (fun _ => rfl) rfl rfl rfl bound_nat (by omega) (by omega) rfl) ?_
   refine PQ.pure (dst := (some 22)) (v := (.string s)) rfl rfl rfl noStore (none_ok _ _) rfl ?_
   refine PQ.pure (dst := (some 23)) (v := (.int .i64 (((s.size - 20) : Nat) : Int))) rfl rfl rfl noStore (none_ok _ _) rfl ?_
   refine PQ.pure (dst := (some 24)) (v := (.string (s.extract (s.size - 20) s.size))) rfl rfl rfl noStore (none_ok _ _) (r_cut (a := (s.size - 20)) (b := s.size) rfl rfl (fun _ => rfl) (fun _ => rfl) rfl rfl bound_nat rfl (by omega) (by omega) rfl) ?_
   refine PQ.callP (dst := (some 25)) (all := (xCk33 key s)) (v := (.bool true)) noStore (dom_none _) rfl rfl rfl rfl rfl rfl rfl rfl (none_ok _ _) (PS.to (s20 key (s.extract 0 (s.size - 20)) (s.extract (s.size - 20) s.size) hk (by rw [size_cut _ _ _ (by omega)]; omega)) (congrArg Value.bool (decide_eq_true hmac))) ?_
   intro n1 hn1
   refine PQ.pure (dst := (some 26)) (v := (.bool false)) rfl rfl rfl noStore (none_ok _ _) rfl ?_
   refine PQ.done (d := []) (by kernel_rfl) ?_
   intro _
   refine RA.cond (t := false) rfl (fun hc => ?_) (fun hc => ?_)
   · cases hc
   ·
    refine RA.skip env_ok ?_
    intro _
    refine RA.seq hd ?_
    refine RA.region env_ok ?_
    refine OA.pure (dst := (some 29)) (v := (.string s)) rfl rfl rfl rfl ?_
    refine OA.pure (dst := (some 30)) (v := (.int .i64 (((s.size - 20) : Nat) : Int))) rfl rfl rfl rfl ?_
    refine OA.pure (dst := (some 31)) (v := (.string (s.extract 0 (s.size - 20)))) rfl rfl rfl (r_cut (a := 0) (b := (s.size - 20)) rfl rfl (fun _ => rfl) (fun _ => rfl) rfl rfl rfl bound_nat (by omega) (by omega) rfl) ?_
    refine OA.callP (dst := (some 32)) (all := [(.string (s.extract 0 (s.size - 20)))]) (v := (.tuple ⟨[(.agg ⟨xCk32⟩), (.int .i64 3)]⟩)) (hd.of (by omega) (kb1 (by omega))) rfl rfl rfl rfl rfl rfl rfl rfl (s47Z (s.extract 0 (s.size - 20)) (by rw [size_cut _ _ _ (by omega)]; omega) (by rw [size_cut _ _ _ (by omega)]; omega) hy) ?_
    intro n2 hn2
    refine OA.pure (dst := (some 28)) (v := (.tuple ⟨[(.agg ⟨xCk32⟩), (.int .i64 3)]⟩)) rfl rfl rfl rfl ?_
    refine OA.pure (dst := (some 33)) (v := (.agg ⟨xCk32⟩)) rfl rfl rfl rfl ?_
    refine OA.pure (dst := (some 34)) (v := (.int .i64 3)) rfl rfl rfl rfl ?_
    refine OA.op1 (dst := (some 10)) (v := (Pt n2 0 0)) (n1 := (n2 + 1)) (w := (n2, some ⟨[xCk32], 16, 35, true⟩)) rfl rfl rfl rfl (by omega) ?_
    refine OA.op1 (dst := none) (v := (.tuple #[])) (n1 := (n2 + 1)) (w := (n2, some ⟨[xCk32], 16, 35, true⟩)) rfl rfl rfl (r_store rfl rfl rfl rfl rfl rfl rfl get_here rfl rfl (Nat.le_of_ble_eq_true rfl) rfl) (by omega) ?_
    refine OA.pure (dst := (some 11)) (v := (.int .i64 3)) rfl rfl rfl rfl ?_
    refine OA.nil ?_
    intro _
    refine RA.weaken (D' := [(n2, some ⟨[xCk32], 16, 35, true⟩), (n, some ⟨[xCk32], 16, 35, true⟩)]) hd (Less.of (fac (mm (fun _ => get_here) (fun _ => get_here)) (fac (mm (fun _ => (get_there (by omega) get_here)) (fun _ => (get_there (by omega) (get_there (by omega) get_here)))) fan)) (gone_of (by simp only [goneP, memP, List.cons_append, List.nil_append, true_or, or_true, true_and, and_true, or_false] <;> omega))) ?_
    refine RA.rebase [(0, (.string key)), (1, (.string s)), (2, (.int .i64 now)), (6, (Pt n 0 0)), (7, (.int .i64 0)), (8, (.int .i64 0)), (9, (.int .i64 (((s.size - 20) : Nat) : Int))), (10, (Pt n2 0 0)), (11, (.int .i64 3)), (16, (.bool false)), (26, (.bool false))] ⟨rfl, rfl, rfl, rfl, rfl, rfl, rfl, rfl, rfl, rfl, rfl, trivial⟩ (fun τr3 => ?_)
    refine RA.seq hd ?_
    refine RA.seq hd ?_
    refine RA.region env_ok ?_
    refine OA.pure (dst := (some 35)) (v := (.int .i64 3)) rfl rfl rfl rfl ?_
    refine OA.pure (dst := (some 36)) (v := (.bool true)) rfl rfl rfl (r_bin rfl rfl rfl (b_neq rfl)) ?_
    refine OA.nil ?_
    intro _
    refine RA.cond (t := true) rfl (fun hc => ?_) (fun hc => ?_)
    ·
     refine RA.seq hd ?_
     refine RA.region env_ok ?_
     refine OA.pure (dst := (some 37)) (v := (.agg ⟨xCk32⟩)) rfl rfl rfl (by kernel_rfl) ?_
     refine OA.pure (dst := (some 38)) (v := (.int .i64 3)) rfl rfl rfl rfl ?_
     refine OA.op1 (dst := none) (v := (.tuple #[])) (n1 := (n2 + 1)) (w := (n, some ⟨[xCk32], 16, 35, true⟩)) rfl rfl rfl (r_store rfl rfl rfl rfl rfl rfl rfl (get_there (by omega) get_here) rfl rfl (Nat.le_of_ble_eq_true rfl) rfl) (by omega) ?_
     refine OA.pure (dst := (some 7)) (v := (.int .i64 0)) rfl rfl rfl rfl ?_
     refine OA.pure (dst := (some 8)) (v := (.int .i64 3)) rfl rfl rfl rfl ?_
     refine OA.nil ?_
     intro _
     refine RA.weaken (D' := [(n, some ⟨[xCk32], 16, 35, true⟩), (n2, some ⟨[xCk32], 16, 35, true⟩)]) hd (Less.of (fac (mm (fun _ => get_here) (fun _ => get_here)) (fac (mm (fun _ => (get_there (by omega) get_here)) (fun _ => (get_there (by omega) get_here))) fan)) (gone_of (by simp only [goneP, memP, List.cons_append, List.nil_append, true_or, or_true, true_and, and_true, or_false] <;> omega))) ?_
     refine RA.ret env_ok ?_
     refine ⟨.inr rfl, [(.agg ⟨xCk32⟩), (.int .i64 0), (.int .i64 3)], (resL_cons (res_cellA rfl rfl rfl get_here rfl rfl rfl) (resL_cons rfl (resL_cons rfl resL_nil))), rfl, (kc2 (by omega))⟩
    · cases hc

theorem gE {σ : Store} (key s : ByteArray) (hk : key.size < 4294967296) (hs : s.size < 2147483648) (now : Int) (hnow : -9223372036854775808 ≤ now ∧ now ≤ 9223372036854775807) (hz : s.size = 104) (hmac : (s.extract (s.size - 20) s.size) = macF key (s.extract 0 (s.size - 20))) (hy : MayI (ckOf (s.extract 0 (s.size - 20)))) (hy2 : ¬ (((ckN (s.extract 0 (s.size - 20))).made : Int) < now ∧ 600 < now - ((ckN (s.extract 0 (s.size - 20))).made : Int)))   : PS Try.prog noDen 28 [(.string key), (.string s), (.int .i64 now)] σ (.tuple #[(.agg ⟨[(.int .i64 (((ckN (s.extract 0 (s.size - 20))).made : Nat) : Int)), (W (ckN (s.extract 0 (s.size - 20))).mine), (W (ckN (s.extract 0 (s.size - 20))).yours), (W (ckN (s.extract 0 (s.size - 20))).mt), (W (ckN (s.extract 0 (s.size - 20))).yt), (W (ckN (s.extract 0 (s.size - 20))).peer), (W (ckN (s.extract 0 (s.size - 20))).loc), (.int .i64 (((ckN (s.extract 0 (s.size - 20))).pp : Nat) : Int)), (.int .i64 (((ckN (s.extract 0 (s.size - 20))).mp : Nat) : Int)), (W (ckN (s.extract 0 (s.size - 20))).rwnd), (.int .i64 (((ckN (s.extract 0 (s.size - 20))).ou : Nat) : Int)), (.int .i64 (((ckN (s.extract 0 (s.size - 20))).inn : Nat) : Int)), (W (ckN (s.extract 0 (s.size - 20))).tm), (W (ckN (s.extract 0 (s.size - 20))).ty), (.string (ckN (s.extract 0 (s.size - 20))).mr), (.string (ckN (s.extract 0 (s.size - 20))).rn)]⟩), .int .i64 0, .int .i64 0]) := by
 refine PS.body (E := env) env_ok rfl rfl (by show _ ≤ _; exact of_decide_eq_true (by kernel_rfl)) (fun n hd => ?_)
 refine RA.seq hd ?_
 refine RA.region env_ok ?_
 refine OA.op1 (dst := (some 6)) (v := (Pt n 0 0)) (n1 := (n + 1)) (w := (n, some ⟨[xCk32], 16, 35, true⟩)) rfl rfl rfl rfl (by omega) ?_
 refine OA.pure (dst := (some 7)) (v := (.int .i64 0)) rfl rfl rfl rfl ?_
 refine OA.pure (dst := (some 8)) (v := (.int .i64 0)) rfl rfl rfl rfl ?_
 refine OA.nil ?_
 intro _
 refine RA.seq hd ?_
 refine RA.region env_ok ?_
 refine OA.pure (dst := (some 12)) (v := (.string s)) rfl rfl rfl rfl ?_
 refine OA.pure (dst := (some 13)) (v := (.int .i64 ((s.size : Nat) : Int))) rfl rfl rfl rfl ?_
 refine OA.pure (dst := (some 14)) (v := (.int .i64 (((s.size - 20) : Nat) : Int))) rfl rfl rfl (r_bin rfl rfl rfl (b_sub (i64_eq (by omega)))) ?_
 refine OA.pure (dst := (some 9)) (v := (.int .i64 (((s.size - 20) : Nat) : Int))) rfl rfl rfl rfl ?_
 refine OA.nil ?_
 intro _
 refine RA.seq hd ?_
 refine RA.seq hd ?_
 refine RA.region env_ok ?_
 refine OA.pure (dst := (some 15)) (v := (.int .i64 (((s.size - 20) : Nat) : Int))) rfl rfl rfl rfl ?_
 by_cases hc1 : (((s.size - 20) : Nat) : Int) < 0
 · exfalso; omega
 ·
  refine OA.pure (dst := (some 16)) (v := (.bool false)) rfl rfl rfl (Eq.trans (r_bin rfl rfl rfl (b_lss rfl)) (by first | (rw [decide_eq_false hc1]; done) | (rw [decide_eq_false hc1]; rfl))) ?_
  refine OA.nil ?_
  intro _
  refine RA.cond (t := false) rfl (fun hc => ?_) (fun hc => ?_)
  · cases hc
  ·
   refine RA.skip env_ok ?_
   intro _
   refine RA.seq hd ?_
   refine RA.seq hd ?_
   refine RA.par (md := [some [], some [], some [], some [], some [], some [], some [], some [], some []]) env_ok (hd.of (by omega) (kb1 (by omega))) (by kernel_rfl) ?_
   refine PQ.pure (dst := (some 18)) (v := (.string key)) rfl rfl rfl noStore (none_ok _ _) rfl ?_
   refine PQ.pure (dst := (some 19)) (v := (.string s)) rfl rfl rfl noStore (none_ok _ _) rfl ?_
   refine PQ.pure (dst := (some 20)) (v := (.int .i64 (((s.size - 20) : Nat) : Int))) rfl rfl rfl noStore (none_ok _ _) rfl ?_
   refine PQ.pure (dst := (some 21)) (v := (.string (s.extract 0 (s.size - 20)))) rfl rfl rfl noStore (none_ok _ _) (r_cut (a := 0) (b := (s.size - 20)) rfl rfl (fun _ => rfl) (fun _ => rfl) rfl rfl rfl bound_nat (by omega) (by omega) rfl) ?_
   refine PQ.pure (dst := (some 22)) (v := (.string s)) rfl rfl rfl noStore (none_ok _ _) rfl ?_
   refine PQ.pure (dst := (some 23)) (v := (.int .i64 (((s.size - 20) : Nat) : Int))) rfl rfl rfl noStore (none_ok _ _) rfl ?_
   refine PQ.pure (dst := (some 24)) (v := (.string (s.extract (s.size - 20) s.size))) rfl rfl rfl noStore (none_ok _ _) (r_cut (a := (s.size - 20)) (b := s.size) rfl rfl (fun _ => rfl) (fun _ => rfl) rfl rfl bound_nat rfl (by omega) (by omega) rfl) ?_
   refine PQ.callP (dst := (some 25)) (all := (xCk33 key s)) (v := (.bool true)) noStore (dom_none _) rfl rfl rfl rfl rfl rfl rfl rfl (none_ok _ _) (PS.to (s20 key (s.extract 0 (s.size - 20)) (s.extract (s.size - 20) s.size) hk (by rw [size_cut _ _ _ (by omega)]; omega)) (congrArg Value.bool (decide_eq_true hmac))) ?_
   intro n1 hn1
   refine PQ.pure (dst := (some 26)) (v := (.bool false)) rfl rfl rfl noStore (none_ok _ _) rfl ?_
   refine PQ.done (d := []) (by kernel_rfl) ?_
   intro _
   refine RA.cond (t := false) rfl (fun hc => ?_) (fun hc => ?_)
   · cases hc
   ·
    refine RA.skip env_ok ?_
    intro _
    refine RA.seq hd ?_
    refine RA.region env_ok ?_
    refine OA.pure (dst := (some 29)) (v := (.string s)) rfl rfl rfl rfl ?_
    refine OA.pure (dst := (some 30)) (v := (.int .i64 (((s.size - 20) : Nat) : Int))) rfl rfl rfl rfl ?_
    refine OA.pure (dst := (some 31)) (v := (.string (s.extract 0 (s.size - 20)))) rfl rfl rfl (r_cut (a := 0) (b := (s.size - 20)) rfl rfl (fun _ => rfl) (fun _ => rfl) rfl rfl rfl bound_nat (by omega) (by omega) rfl) ?_
    refine OA.callP (dst := (some 32)) (all := [(.string (s.extract 0 (s.size - 20)))]) (v := (.tuple ⟨[(.agg ⟨(xCk31 s)⟩), (.int .i64 0)]⟩)) (hd.of (by omega) (kb1 (by omega))) rfl rfl rfl rfl rfl rfl rfl rfl (s47N (s.extract 0 (s.size - 20)) (by rw [size_cut _ _ _ (by omega)]; omega) (by rw [size_cut _ _ _ (by omega)]; omega) hy) ?_
    intro n2 hn2
    refine OA.pure (dst := (some 28)) (v := (.tuple ⟨[(.agg ⟨(xCk31 s)⟩), (.int .i64 0)]⟩)) rfl rfl rfl rfl ?_
    refine OA.pure (dst := (some 33)) (v := (.agg ⟨(xCk31 s)⟩)) rfl rfl rfl rfl ?_
    refine OA.pure (dst := (some 34)) (v := (.int .i64 0)) rfl rfl rfl rfl ?_
    refine OA.op1 (dst := (some 10)) (v := (Pt n2 0 0)) (n1 := (n2 + 1)) (w := (n2, some ⟨[xCk32], 16, 35, true⟩)) rfl rfl rfl rfl (by omega) ?_
    refine OA.op1 (dst := none) (v := (.tuple #[])) (n1 := (n2 + 1)) (w := (n2, some ⟨[(xCk31 s)], 16, 35, true⟩)) rfl rfl rfl (r_store rfl rfl rfl rfl rfl rfl rfl get_here rfl rfl (Nat.le_of_ble_eq_true rfl) rfl) (by omega) ?_
    refine OA.pure (dst := (some 11)) (v := (.int .i64 0)) rfl rfl rfl rfl ?_
    refine OA.nil ?_
    intro _
    refine RA.weaken (D' := [(n2, some ⟨[(xCk31 s)], 16, 35, true⟩), (n, some ⟨[xCk32], 16, 35, true⟩)]) hd (Less.of (fac (mm (fun _ => get_here) (fun _ => get_here)) (fac (mm (fun _ => (get_there (by omega) get_here)) (fun _ => (get_there (by omega) (get_there (by omega) get_here)))) fan)) (gone_of (by simp only [goneP, memP, List.cons_append, List.nil_append, true_or, or_true, true_and, and_true, or_false] <;> omega))) ?_
    refine RA.rebase [(0, (.string key)), (1, (.string s)), (2, (.int .i64 now)), (6, (Pt n 0 0)), (7, (.int .i64 0)), (8, (.int .i64 0)), (9, (.int .i64 (((s.size - 20) : Nat) : Int))), (10, (Pt n2 0 0)), (11, (.int .i64 0)), (16, (.bool false)), (26, (.bool false))] ⟨rfl, rfl, rfl, rfl, rfl, rfl, rfl, rfl, rfl, rfl, rfl, trivial⟩ (fun τr3 => ?_)
    refine RA.seq hd ?_
    refine RA.seq hd ?_
    refine RA.region env_ok ?_
    refine OA.pure (dst := (some 35)) (v := (.int .i64 0)) rfl rfl rfl rfl ?_
    refine OA.pure (dst := (some 36)) (v := (.bool false)) rfl rfl rfl (r_bin rfl rfl rfl (b_neq rfl)) ?_
    refine OA.nil ?_
    intro _
    refine RA.cond (t := false) rfl (fun hc => ?_) (fun hc => ?_)
    · cases hc
    ·
     refine RA.skip env_ok ?_
     intro _
     refine RA.seq hd ?_
     refine RA.seq hd ?_
     refine RA.region env_ok ?_
     refine OA.pure (dst := (some 39)) (v := (.int .i64 now)) rfl rfl rfl rfl ?_
     refine OA.pure (dst := (some 40)) (v := (Pt n2 0 0)) rfl rfl rfl rfl ?_
     refine OA.pure (dst := (some 41)) (v := (.int .i64 (((ckN (s.extract 0 (s.size - 20))).made : Nat) : Int))) rfl rfl rfl (r_load1 rfl rfl rfl rfl rfl get_here rfl rfl) ?_
     by_cases hc2 : (((ckN (s.extract 0 (s.size - 20))).made : Nat) : Int) < now
     ·
      refine OA.pure (dst := (some 42)) (v := (.bool true)) rfl rfl rfl (Eq.trans (r_bin rfl rfl rfl (b_gtr rfl)) (by first | (rw [decide_eq_true hc2]; done) | (rw [decide_eq_true hc2]; rfl))) ?_
      refine OA.pure (dst := (some 43)) (v := (.bool true)) rfl rfl rfl rfl ?_
      refine OA.pure (dst := (some 44)) (v := (.int .i64 now)) rfl rfl rfl rfl ?_
      refine OA.pure (dst := (some 45)) (v := (Pt n2 0 0)) rfl rfl rfl rfl ?_
      refine OA.pure (dst := (some 46)) (v := (.int .i64 (((ckN (s.extract 0 (s.size - 20))).made : Nat) : Int))) rfl rfl rfl (r_load1 rfl rfl rfl rfl rfl get_here rfl rfl) ?_
      refine OA.pure (dst := (some 47)) (v := (.int .i64 (now - (((ckN (s.extract 0 (s.size - 20))).made : Nat) : Int)))) rfl rfl rfl (r_bin rfl rfl rfl (b_sub (i64_eq (by omega)))) ?_
      by_cases hc3 : 600 < (now - (((ckN (s.extract 0 (s.size - 20))).made : Nat) : Int))
      ·
       refine OA.pure (dst := (some 48)) (v := (.bool true)) rfl rfl rfl (Eq.trans (r_bin rfl rfl rfl (b_gtr rfl)) (by first | (rw [decide_eq_true hc3]; done) | (rw [decide_eq_true hc3]; rfl))) ?_
       refine OA.pure (dst := (some 49)) (v := (.bool true)) rfl rfl rfl rfl ?_
       refine OA.nil ?_
       intro _
       refine RA.cond (t := true) rfl (fun hc => ?_) (fun hc => ?_)
       ·
        refine RA.seq hd ?_
        refine RA.par (md := [some [n2], some [], some [], some [n2], some [], some [], none, some [], some []]) env_ok (hd.of (by omega) (kb2 (by omega))) (by kernel_rfl) ?_
        refine PQ.pure (dst := (some 50)) (v := (.agg ⟨(xCk31 s)⟩)) rfl rfl rfl (app [(n2, some ⟨[(xCk31 s)], 16, 35, true⟩)] noStore) (seen_one (V := []) (D := [(n2, some ⟨[(xCk31 s)], 16, 35, true⟩), (n, some ⟨[xCk32], 16, 35, true⟩)]) (by kernel_rfl) get_here) (r_loadA rfl rfl rfl rfl get_here rfl rfl rfl) ?_
        refine PQ.pure (dst := (some 51)) (v := (.int .i64 now)) rfl rfl rfl noStore (none_ok _ _) rfl ?_
        refine PQ.pure (dst := (some 52)) (v := (Pt n2 0 0)) rfl rfl rfl noStore (none_ok _ _) rfl ?_
        refine PQ.pure (dst := (some 53)) (v := (.int .i64 (((ckN (s.extract 0 (s.size - 20))).made : Nat) : Int))) rfl rfl rfl (app [(n2, some ⟨[(xCk31 s)], 16, 35, true⟩)] noStore) (seen_one (V := []) (D := [(n2, some ⟨[(xCk31 s)], 16, 35, true⟩), (n, some ⟨[xCk32], 16, 35, true⟩)]) (by kernel_rfl) get_here) (r_load1 rfl rfl rfl rfl rfl get_here rfl rfl) ?_
        refine PQ.pure (dst := (some 54)) (v := (.int .i64 (now - (((ckN (s.extract 0 (s.size - 20))).made : Nat) : Int)))) rfl rfl rfl noStore (none_ok _ _) (r_bin rfl rfl rfl (b_sub (i64_eq (by omega)))) ?_
        refine PQ.pure (dst := (some 55)) (v := (.int .i64 ((now - (((ckN (s.extract 0 (s.size - 20))).made : Nat) : Int)) - 600))) rfl rfl rfl noStore (none_ok _ _) (r_bin rfl rfl rfl (b_sub (i64_eq (by omega)))) ?_
        refine PQ.op (dst := none) (v := (.tuple #[])) (n1 := (n2 + 1)) (d1 := [(n, some ⟨[(xCk31 s)], 16, 35, true⟩)]) rfl rfl rfl (app [(n2, some ⟨[(xCk31 s)], 16, 35, true⟩), (n, some ⟨[xCk32], 16, 35, true⟩)] σ) (seen_any (V := []) (D := [(n2, some ⟨[(xCk31 s)], 16, 35, true⟩), (n, some ⟨[xCk32], 16, 35, true⟩)]) (by kernel_rfl)) (r_store rfl rfl rfl rfl rfl rfl rfl (get_there (by omega) get_here) rfl rfl (Nat.le_of_ble_eq_true rfl) rfl) (by omega) (fun x hx => by first | (simp only [keys, List.cons_append, List.nil_append, List.map_cons, List.map_nil, List.mem_cons, List.not_mem_nil, or_false, false_or] at hx; exact wr_new (by omega) (by omega)) | (simp only [keys, List.cons_append, List.nil_append, List.map_cons, List.map_nil, List.mem_cons, List.not_mem_nil, or_false, false_or] at hx; exact wr_old [1, 2, 3, 4, 5] (by kernel_rfl) (by omega) (by omega) (by intro i hi; simp only [List.mem_cons, List.not_mem_nil, or_false] at hi; rcases hi with rfl | rfl | rfl | rfl | rfl <;> exact ⟨_, rfl, by simp only [List.mem_cons, List.not_mem_nil, or_false, not_false_eq_true]; try omega⟩))) ?_
        refine PQ.pure (dst := (some 7)) (v := (.int .i64 ((now - (((ckN (s.extract 0 (s.size - 20))).made : Nat) : Int)) - 600))) rfl rfl rfl noStore (none_ok _ _) rfl ?_
        refine PQ.pure (dst := (some 8)) (v := (.int .i64 101)) rfl rfl rfl noStore (none_ok _ _) rfl ?_
        refine PQ.done (d := [(n, some ⟨[(xCk31 s)], 16, 35, true⟩)]) (by kernel_rfl) ?_
        intro _
        refine RA.weaken (D' := [(n, some ⟨[(xCk31 s)], 16, 35, true⟩), (n2, some ⟨[(xCk31 s)], 16, 35, true⟩)]) hd (Less.of (fac (mm (fun _ => get_here) (fun _ => get_here)) (fac (mm (fun _ => (get_there (by omega) get_here)) (fun _ => (get_there (by omega) get_here))) fan)) (gone_of (by simp only [goneP, memP, List.cons_append, List.nil_append, true_or, or_true, true_and, and_true, or_false] <;> omega))) ?_
        refine RA.ret env_ok ?_
        refine ⟨.inr rfl, [(.agg ⟨(xCk31 s)⟩), (.int .i64 ((now - (((ckN (s.extract 0 (s.size - 20))).made : Nat) : Int)) - 600)), (.int .i64 101)], (resL_cons (res_cellA rfl rfl rfl get_here rfl rfl rfl) (resL_cons rfl (resL_cons rfl resL_nil))), (by exfalso; omega), (kc2 (by omega))⟩
       · cases hc
      ·
       refine OA.pure (dst := (some 48)) (v := (.bool false)) rfl rfl rfl (Eq.trans (r_bin rfl rfl rfl (b_gtr rfl)) (by first | (rw [decide_eq_false hc3]; done) | (rw [decide_eq_false hc3]; rfl))) ?_
       refine OA.pure (dst := (some 49)) (v := (.bool false)) rfl rfl rfl rfl ?_
       refine OA.nil ?_
       intro _
       refine RA.cond (t := false) rfl (fun hc => ?_) (fun hc => ?_)
       · cases hc
       ·
        refine RA.skip env_ok ?_
        intro _
        refine RA.seq hd ?_
        refine RA.region env_ok ?_
        refine OA.pure (dst := (some 56)) (v := (.agg ⟨(xCk31 s)⟩)) rfl rfl rfl (r_loadA rfl rfl rfl rfl get_here rfl rfl rfl) ?_
        refine OA.op1 (dst := none) (v := (.tuple #[])) (n1 := (n2 + 1)) (w := (n, some ⟨[(xCk31 s)], 16, 35, true⟩)) rfl rfl rfl (r_store rfl rfl rfl rfl rfl rfl rfl (get_there (by omega) get_here) rfl rfl (Nat.le_of_ble_eq_true rfl) rfl) (by omega) ?_
        refine OA.pure (dst := (some 7)) (v := (.int .i64 0)) rfl rfl rfl rfl ?_
        refine OA.pure (dst := (some 8)) (v := (.int .i64 0)) rfl rfl rfl rfl ?_
        refine OA.nil ?_
        intro _
        refine RA.weaken (D' := [(n, some ⟨[(xCk31 s)], 16, 35, true⟩), (n2, some ⟨[(xCk31 s)], 16, 35, true⟩)]) hd (Less.of (fac (mm (fun _ => get_here) (fun _ => get_here)) (fac (mm (fun _ => (get_there (by omega) get_here)) (fun _ => (get_there (by omega) get_here))) fan)) (gone_of (by simp only [goneP, memP, List.cons_append, List.nil_append, true_or, or_true, true_and, and_true, or_false] <;> omega))) ?_
        refine RA.ret env_ok ?_
        refine ⟨.inr rfl, [(.agg ⟨(xCk31 s)⟩), (.int .i64 0), (.int .i64 0)], (resL_cons (res_cellA rfl rfl rfl get_here rfl rfl rfl) (resL_cons rfl (resL_cons rfl resL_nil))), rfl, (kc2 (by omega))⟩
     ·
      refine OA.pure (dst := (some 42)) (v := (.bool false)) rfl rfl rfl (Eq.trans (r_bin rfl rfl rfl (b_gtr rfl)) (by first | (rw [decide_eq_false hc2]; done) | (rw [decide_eq_false hc2]; rfl))) ?_
      refine OA.pure (dst := (some 43)) (v := (.bool false)) rfl rfl rfl rfl ?_
      refine OA.off (dst := (some 44)) rfl rfl rfl ?_
      refine OA.off (dst := (some 45)) rfl rfl rfl ?_
      refine OA.off (dst := (some 46)) rfl rfl rfl ?_
      refine OA.off (dst := (some 47)) rfl rfl rfl ?_
      refine OA.off (dst := (some 48)) rfl rfl rfl ?_
      refine OA.pure (dst := (some 49)) (v := (.bool false)) rfl rfl rfl rfl ?_
      refine OA.nil ?_
      intro _
      refine RA.cond (t := false) rfl (fun hc => ?_) (fun hc => ?_)
      · cases hc
      ·
       refine RA.skip env_ok ?_
       intro _
       refine RA.seq hd ?_
       refine RA.region env_ok ?_
       refine OA.pure (dst := (some 56)) (v := (.agg ⟨(xCk31 s)⟩)) rfl rfl rfl (r_loadA rfl rfl rfl rfl get_here rfl rfl rfl) ?_
       refine OA.op1 (dst := none) (v := (.tuple #[])) (n1 := (n2 + 1)) (w := (n, some ⟨[(xCk31 s)], 16, 35, true⟩)) rfl rfl rfl (r_store rfl rfl rfl rfl rfl rfl rfl (get_there (by omega) get_here) rfl rfl (Nat.le_of_ble_eq_true rfl) rfl) (by omega) ?_
       refine OA.pure (dst := (some 7)) (v := (.int .i64 0)) rfl rfl rfl rfl ?_
       refine OA.pure (dst := (some 8)) (v := (.int .i64 0)) rfl rfl rfl rfl ?_
       refine OA.nil ?_
       intro _
       refine RA.weaken (D' := [(n, some ⟨[(xCk31 s)], 16, 35, true⟩), (n2, some ⟨[(xCk31 s)], 16, 35, true⟩)]) hd (Less.of (fac (mm (fun _ => get_here) (fun _ => get_here)) (fac (mm (fun _ => (get_there (by omega) get_here)) (fun _ => (get_there (by omega) get_here))) fan)) (gone_of (by simp only [goneP, memP, List.cons_append, List.nil_append, true_or, or_true, true_and, and_true, or_false] <;> omega))) ?_
       refine RA.ret env_ok ?_
       refine ⟨.inr rfl, [(.agg ⟨(xCk31 s)⟩), (.int .i64 0), (.int .i64 0)], (resL_cons (res_cellA rfl rfl rfl get_here rfl rfl rfl) (resL_cons rfl (resL_cons rfl resL_nil))), rfl, (kc2 (by omega))⟩

theorem gF {σ : Store} (key s : ByteArray) (hk : key.size < 4294967296) (hs : s.size < 2147483648) (now : Int) (hnow : -9223372036854775808 ≤ now ∧ now ≤ 9223372036854775807) (hz : s.size = 104) (hmac : (s.extract (s.size - 20) s.size) = macF key (s.extract 0 (s.size - 20))) (hy : MayI (ckOf (s.extract 0 (s.size - 20)))) (hy2 : (((ckN (s.extract 0 (s.size - 20))).made : Int) < now ∧ 600 < now - ((ckN (s.extract 0 (s.size - 20))).made : Int)))   : PS Try.prog noDen 28 [(.string key), (.string s), (.int .i64 now)] σ (.tuple #[(.agg ⟨[(.int .i64 (((ckN (s.extract 0 (s.size - 20))).made : Nat) : Int)), (W (ckN (s.extract 0 (s.size - 20))).mine), (W (ckN (s.extract 0 (s.size - 20))).yours), (W (ckN (s.extract 0 (s.size - 20))).mt), (W (ckN (s.extract 0 (s.size - 20))).yt), (W (ckN (s.extract 0 (s.size - 20))).peer), (W (ckN (s.extract 0 (s.size - 20))).loc), (.int .i64 (((ckN (s.extract 0 (s.size - 20))).pp : Nat) : Int)), (.int .i64 (((ckN (s.extract 0 (s.size - 20))).mp : Nat) : Int)), (W (ckN (s.extract 0 (s.size - 20))).rwnd), (.int .i64 (((ckN (s.extract 0 (s.size - 20))).ou : Nat) : Int)), (.int .i64 (((ckN (s.extract 0 (s.size - 20))).inn : Nat) : Int)), (W (ckN (s.extract 0 (s.size - 20))).tm), (W (ckN (s.extract 0 (s.size - 20))).ty), (.string (ckN (s.extract 0 (s.size - 20))).mr), (.string (ckN (s.extract 0 (s.size - 20))).rn)]⟩), .int .i64 ((now - ((ckN (s.extract 0 (s.size - 20))).made : Int)) - 600), .int .i64 101]) := by
 refine PS.body (E := env) env_ok rfl rfl (by show _ ≤ _; exact of_decide_eq_true (by kernel_rfl)) (fun n hd => ?_)
 refine RA.seq hd ?_
 refine RA.region env_ok ?_
 refine OA.op1 (dst := (some 6)) (v := (Pt n 0 0)) (n1 := (n + 1)) (w := (n, some ⟨[xCk32], 16, 35, true⟩)) rfl rfl rfl rfl (by omega) ?_
 refine OA.pure (dst := (some 7)) (v := (.int .i64 0)) rfl rfl rfl rfl ?_
 refine OA.pure (dst := (some 8)) (v := (.int .i64 0)) rfl rfl rfl rfl ?_
 refine OA.nil ?_
 intro _
 refine RA.seq hd ?_
 refine RA.region env_ok ?_
 refine OA.pure (dst := (some 12)) (v := (.string s)) rfl rfl rfl rfl ?_
 refine OA.pure (dst := (some 13)) (v := (.int .i64 ((s.size : Nat) : Int))) rfl rfl rfl rfl ?_
 refine OA.pure (dst := (some 14)) (v := (.int .i64 (((s.size - 20) : Nat) : Int))) rfl rfl rfl (r_bin rfl rfl rfl (b_sub (i64_eq (by omega)))) ?_
 refine OA.pure (dst := (some 9)) (v := (.int .i64 (((s.size - 20) : Nat) : Int))) rfl rfl rfl rfl ?_
 refine OA.nil ?_
 intro _
 refine RA.seq hd ?_
 refine RA.seq hd ?_
 refine RA.region env_ok ?_
 refine OA.pure (dst := (some 15)) (v := (.int .i64 (((s.size - 20) : Nat) : Int))) rfl rfl rfl rfl ?_
 by_cases hc1 : (((s.size - 20) : Nat) : Int) < 0
 · exfalso; omega
 ·
  refine OA.pure (dst := (some 16)) (v := (.bool false)) rfl rfl rfl (Eq.trans (r_bin rfl rfl rfl (b_lss rfl)) (by first | (rw [decide_eq_false hc1]; done) | (rw [decide_eq_false hc1]; rfl))) ?_
  refine OA.nil ?_
  intro _
  refine RA.cond (t := false) rfl (fun hc => ?_) (fun hc => ?_)
  · cases hc
  ·
   refine RA.skip env_ok ?_
   intro _
   refine RA.seq hd ?_
   refine RA.seq hd ?_
   refine RA.par (md := [some [], some [], some [], some [], some [], some [], some [], some [], some []]) env_ok (hd.of (by omega) (kb1 (by omega))) (by kernel_rfl) ?_
   refine PQ.pure (dst := (some 18)) (v := (.string key)) rfl rfl rfl noStore (none_ok _ _) rfl ?_
   refine PQ.pure (dst := (some 19)) (v := (.string s)) rfl rfl rfl noStore (none_ok _ _) rfl ?_
   refine PQ.pure (dst := (some 20)) (v := (.int .i64 (((s.size - 20) : Nat) : Int))) rfl rfl rfl noStore (none_ok _ _) rfl ?_
   refine PQ.pure (dst := (some 21)) (v := (.string (s.extract 0 (s.size - 20)))) rfl rfl rfl noStore (none_ok _ _) (r_cut (a := 0) (b := (s.size - 20)) rfl rfl (fun _ => rfl) (fun _ => rfl) rfl rfl rfl bound_nat (by omega) (by omega) rfl) ?_
   refine PQ.pure (dst := (some 22)) (v := (.string s)) rfl rfl rfl noStore (none_ok _ _) rfl ?_
   refine PQ.pure (dst := (some 23)) (v := (.int .i64 (((s.size - 20) : Nat) : Int))) rfl rfl rfl noStore (none_ok _ _) rfl ?_
   refine PQ.pure (dst := (some 24)) (v := (.string (s.extract (s.size - 20) s.size))) rfl rfl rfl noStore (none_ok _ _) (r_cut (a := (s.size - 20)) (b := s.size) rfl rfl (fun _ => rfl) (fun _ => rfl) rfl rfl bound_nat rfl (by omega) (by omega) rfl) ?_
   refine PQ.callP (dst := (some 25)) (all := (xCk33 key s)) (v := (.bool true)) noStore (dom_none _) rfl rfl rfl rfl rfl rfl rfl rfl (none_ok _ _) (PS.to (s20 key (s.extract 0 (s.size - 20)) (s.extract (s.size - 20) s.size) hk (by rw [size_cut _ _ _ (by omega)]; omega)) (congrArg Value.bool (decide_eq_true hmac))) ?_
   intro n1 hn1
   refine PQ.pure (dst := (some 26)) (v := (.bool false)) rfl rfl rfl noStore (none_ok _ _) rfl ?_
   refine PQ.done (d := []) (by kernel_rfl) ?_
   intro _
   refine RA.cond (t := false) rfl (fun hc => ?_) (fun hc => ?_)
   · cases hc
   ·
    refine RA.skip env_ok ?_
    intro _
    refine RA.seq hd ?_
    refine RA.region env_ok ?_
    refine OA.pure (dst := (some 29)) (v := (.string s)) rfl rfl rfl rfl ?_
    refine OA.pure (dst := (some 30)) (v := (.int .i64 (((s.size - 20) : Nat) : Int))) rfl rfl rfl rfl ?_
    refine OA.pure (dst := (some 31)) (v := (.string (s.extract 0 (s.size - 20)))) rfl rfl rfl (r_cut (a := 0) (b := (s.size - 20)) rfl rfl (fun _ => rfl) (fun _ => rfl) rfl rfl rfl bound_nat (by omega) (by omega) rfl) ?_
    refine OA.callP (dst := (some 32)) (all := [(.string (s.extract 0 (s.size - 20)))]) (v := (.tuple ⟨[(.agg ⟨(xCk31 s)⟩), (.int .i64 0)]⟩)) (hd.of (by omega) (kb1 (by omega))) rfl rfl rfl rfl rfl rfl rfl rfl (s47N (s.extract 0 (s.size - 20)) (by rw [size_cut _ _ _ (by omega)]; omega) (by rw [size_cut _ _ _ (by omega)]; omega) hy) ?_
    intro n2 hn2
    refine OA.pure (dst := (some 28)) (v := (.tuple ⟨[(.agg ⟨(xCk31 s)⟩), (.int .i64 0)]⟩)) rfl rfl rfl rfl ?_
    refine OA.pure (dst := (some 33)) (v := (.agg ⟨(xCk31 s)⟩)) rfl rfl rfl rfl ?_
    refine OA.pure (dst := (some 34)) (v := (.int .i64 0)) rfl rfl rfl rfl ?_
    refine OA.op1 (dst := (some 10)) (v := (Pt n2 0 0)) (n1 := (n2 + 1)) (w := (n2, some ⟨[xCk32], 16, 35, true⟩)) rfl rfl rfl rfl (by omega) ?_
    refine OA.op1 (dst := none) (v := (.tuple #[])) (n1 := (n2 + 1)) (w := (n2, some ⟨[(xCk31 s)], 16, 35, true⟩)) rfl rfl rfl (r_store rfl rfl rfl rfl rfl rfl rfl get_here rfl rfl (Nat.le_of_ble_eq_true rfl) rfl) (by omega) ?_
    refine OA.pure (dst := (some 11)) (v := (.int .i64 0)) rfl rfl rfl rfl ?_
    refine OA.nil ?_
    intro _
    refine RA.weaken (D' := [(n2, some ⟨[(xCk31 s)], 16, 35, true⟩), (n, some ⟨[xCk32], 16, 35, true⟩)]) hd (Less.of (fac (mm (fun _ => get_here) (fun _ => get_here)) (fac (mm (fun _ => (get_there (by omega) get_here)) (fun _ => (get_there (by omega) (get_there (by omega) get_here)))) fan)) (gone_of (by simp only [goneP, memP, List.cons_append, List.nil_append, true_or, or_true, true_and, and_true, or_false] <;> omega))) ?_
    refine RA.rebase [(0, (.string key)), (1, (.string s)), (2, (.int .i64 now)), (6, (Pt n 0 0)), (7, (.int .i64 0)), (8, (.int .i64 0)), (9, (.int .i64 (((s.size - 20) : Nat) : Int))), (10, (Pt n2 0 0)), (11, (.int .i64 0)), (16, (.bool false)), (26, (.bool false))] ⟨rfl, rfl, rfl, rfl, rfl, rfl, rfl, rfl, rfl, rfl, rfl, trivial⟩ (fun τr3 => ?_)
    refine RA.seq hd ?_
    refine RA.seq hd ?_
    refine RA.region env_ok ?_
    refine OA.pure (dst := (some 35)) (v := (.int .i64 0)) rfl rfl rfl rfl ?_
    refine OA.pure (dst := (some 36)) (v := (.bool false)) rfl rfl rfl (r_bin rfl rfl rfl (b_neq rfl)) ?_
    refine OA.nil ?_
    intro _
    refine RA.cond (t := false) rfl (fun hc => ?_) (fun hc => ?_)
    · cases hc
    ·
     refine RA.skip env_ok ?_
     intro _
     refine RA.seq hd ?_
     refine RA.seq hd ?_
     refine RA.region env_ok ?_
     refine OA.pure (dst := (some 39)) (v := (.int .i64 now)) rfl rfl rfl rfl ?_
     refine OA.pure (dst := (some 40)) (v := (Pt n2 0 0)) rfl rfl rfl rfl ?_
     refine OA.pure (dst := (some 41)) (v := (.int .i64 (((ckN (s.extract 0 (s.size - 20))).made : Nat) : Int))) rfl rfl rfl (r_load1 rfl rfl rfl rfl rfl get_here rfl rfl) ?_
     by_cases hc2 : (((ckN (s.extract 0 (s.size - 20))).made : Nat) : Int) < now
     ·
      refine OA.pure (dst := (some 42)) (v := (.bool true)) rfl rfl rfl (Eq.trans (r_bin rfl rfl rfl (b_gtr rfl)) (by first | (rw [decide_eq_true hc2]; done) | (rw [decide_eq_true hc2]; rfl))) ?_
      refine OA.pure (dst := (some 43)) (v := (.bool true)) rfl rfl rfl rfl ?_
      refine OA.pure (dst := (some 44)) (v := (.int .i64 now)) rfl rfl rfl rfl ?_
      refine OA.pure (dst := (some 45)) (v := (Pt n2 0 0)) rfl rfl rfl rfl ?_
      refine OA.pure (dst := (some 46)) (v := (.int .i64 (((ckN (s.extract 0 (s.size - 20))).made : Nat) : Int))) rfl rfl rfl (r_load1 rfl rfl rfl rfl rfl get_here rfl rfl) ?_
      refine OA.pure (dst := (some 47)) (v := (.int .i64 (now - (((ckN (s.extract 0 (s.size - 20))).made : Nat) : Int)))) rfl rfl rfl (r_bin rfl rfl rfl (b_sub (i64_eq (by omega)))) ?_
      by_cases hc3 : 600 < (now - (((ckN (s.extract 0 (s.size - 20))).made : Nat) : Int))
      ·
       refine OA.pure (dst := (some 48)) (v := (.bool true)) rfl rfl rfl (Eq.trans (r_bin rfl rfl rfl (b_gtr rfl)) (by first | (rw [decide_eq_true hc3]; done) | (rw [decide_eq_true hc3]; rfl))) ?_
       refine OA.pure (dst := (some 49)) (v := (.bool true)) rfl rfl rfl rfl ?_
       refine OA.nil ?_
       intro _
       refine RA.cond (t := true) rfl (fun hc => ?_) (fun hc => ?_)
       ·
        refine RA.seq hd ?_
        refine RA.par (md := [some [n2], some [], some [], some [n2], some [], some [], none, some [], some []]) env_ok (hd.of (by omega) (kb2 (by omega))) (by kernel_rfl) ?_
        refine PQ.pure (dst := (some 50)) (v := (.agg ⟨(xCk31 s)⟩)) rfl rfl rfl (app [(n2, some ⟨[(xCk31 s)], 16, 35, true⟩)] noStore) (seen_one (V := []) (D := [(n2, some ⟨[(xCk31 s)], 16, 35, true⟩), (n, some ⟨[xCk32], 16, 35, true⟩)]) (by kernel_rfl) get_here) (r_loadA rfl rfl rfl rfl get_here rfl rfl rfl) ?_
        refine PQ.pure (dst := (some 51)) (v := (.int .i64 now)) rfl rfl rfl noStore (none_ok _ _) rfl ?_
        refine PQ.pure (dst := (some 52)) (v := (Pt n2 0 0)) rfl rfl rfl noStore (none_ok _ _) rfl ?_
        refine PQ.pure (dst := (some 53)) (v := (.int .i64 (((ckN (s.extract 0 (s.size - 20))).made : Nat) : Int))) rfl rfl rfl (app [(n2, some ⟨[(xCk31 s)], 16, 35, true⟩)] noStore) (seen_one (V := []) (D := [(n2, some ⟨[(xCk31 s)], 16, 35, true⟩), (n, some ⟨[xCk32], 16, 35, true⟩)]) (by kernel_rfl) get_here) (r_load1 rfl rfl rfl rfl rfl get_here rfl rfl) ?_
        refine PQ.pure (dst := (some 54)) (v := (.int .i64 (now - (((ckN (s.extract 0 (s.size - 20))).made : Nat) : Int)))) rfl rfl rfl noStore (none_ok _ _) (r_bin rfl rfl rfl (b_sub (i64_eq (by omega)))) ?_
        refine PQ.pure (dst := (some 55)) (v := (.int .i64 ((now - (((ckN (s.extract 0 (s.size - 20))).made : Nat) : Int)) - 600))) rfl rfl rfl noStore (none_ok _ _) (r_bin rfl rfl rfl (b_sub (i64_eq (by omega)))) ?_
        refine PQ.op (dst := none) (v := (.tuple #[])) (n1 := (n2 + 1)) (d1 := [(n, some ⟨[(xCk31 s)], 16, 35, true⟩)]) rfl rfl rfl (app [(n2, some ⟨[(xCk31 s)], 16, 35, true⟩), (n, some ⟨[xCk32], 16, 35, true⟩)] σ) (seen_any (V := []) (D := [(n2, some ⟨[(xCk31 s)], 16, 35, true⟩), (n, some ⟨[xCk32], 16, 35, true⟩)]) (by kernel_rfl)) (r_store rfl rfl rfl rfl rfl rfl rfl (get_there (by omega) get_here) rfl rfl (Nat.le_of_ble_eq_true rfl) rfl) (by omega) (fun x hx => by first | (simp only [keys, List.cons_append, List.nil_append, List.map_cons, List.map_nil, List.mem_cons, List.not_mem_nil, or_false, false_or] at hx; exact wr_new (by omega) (by omega)) | (simp only [keys, List.cons_append, List.nil_append, List.map_cons, List.map_nil, List.mem_cons, List.not_mem_nil, or_false, false_or] at hx; exact wr_old [1, 2, 3, 4, 5] (by kernel_rfl) (by omega) (by omega) (by intro i hi; simp only [List.mem_cons, List.not_mem_nil, or_false] at hi; rcases hi with rfl | rfl | rfl | rfl | rfl <;> exact ⟨_, rfl, by simp only [List.mem_cons, List.not_mem_nil, or_false, not_false_eq_true]; try omega⟩))) ?_
        refine PQ.pure (dst := (some 7)) (v := (.int .i64 ((now - (((ckN (s.extract 0 (s.size - 20))).made : Nat) : Int)) - 600))) rfl rfl rfl noStore (none_ok _ _) rfl ?_
        refine PQ.pure (dst := (some 8)) (v := (.int .i64 101)) rfl rfl rfl noStore (none_ok _ _) rfl ?_
        refine PQ.done (d := [(n, some ⟨[(xCk31 s)], 16, 35, true⟩)]) (by kernel_rfl) ?_
        intro _
        refine RA.weaken (D' := [(n, some ⟨[(xCk31 s)], 16, 35, true⟩), (n2, some ⟨[(xCk31 s)], 16, 35, true⟩)]) hd (Less.of (fac (mm (fun _ => get_here) (fun _ => get_here)) (fac (mm (fun _ => (get_there (by omega) get_here)) (fun _ => (get_there (by omega) get_here))) fan)) (gone_of (by simp only [goneP, memP, List.cons_append, List.nil_append, true_or, or_true, true_and, and_true, or_false] <;> omega))) ?_
        refine RA.ret env_ok ?_
        refine ⟨.inr rfl, [(.agg ⟨(xCk31 s)⟩), (.int .i64 ((now - (((ckN (s.extract 0 (s.size - 20))).made : Nat) : Int)) - 600)), (.int .i64 101)], (resL_cons (res_cellA rfl rfl rfl get_here rfl rfl rfl) (resL_cons rfl (resL_cons rfl resL_nil))), rfl, (kc2 (by omega))⟩
       · cases hc
      ·
       refine OA.pure (dst := (some 48)) (v := (.bool false)) rfl rfl rfl (Eq.trans (r_bin rfl rfl rfl (b_gtr rfl)) (by first | (rw [decide_eq_false hc3]; done) | (rw [decide_eq_false hc3]; rfl))) ?_
       refine OA.pure (dst := (some 49)) (v := (.bool false)) rfl rfl rfl rfl ?_
       refine OA.nil ?_
       intro _
       refine RA.cond (t := false) rfl (fun hc => ?_) (fun hc => ?_)
       · cases hc
       ·
        refine RA.skip env_ok ?_
        intro _
        refine RA.seq hd ?_
        refine RA.region env_ok ?_
        refine OA.pure (dst := (some 56)) (v := (.agg ⟨(xCk31 s)⟩)) rfl rfl rfl (r_loadA rfl rfl rfl rfl get_here rfl rfl rfl) ?_
        refine OA.op1 (dst := none) (v := (.tuple #[])) (n1 := (n2 + 1)) (w := (n, some ⟨[(xCk31 s)], 16, 35, true⟩)) rfl rfl rfl (r_store rfl rfl rfl rfl rfl rfl rfl (get_there (by omega) get_here) rfl rfl (Nat.le_of_ble_eq_true rfl) rfl) (by omega) ?_
        refine OA.pure (dst := (some 7)) (v := (.int .i64 0)) rfl rfl rfl rfl ?_
        refine OA.pure (dst := (some 8)) (v := (.int .i64 0)) rfl rfl rfl rfl ?_
        refine OA.nil ?_
        intro _
        refine RA.weaken (D' := [(n, some ⟨[(xCk31 s)], 16, 35, true⟩), (n2, some ⟨[(xCk31 s)], 16, 35, true⟩)]) hd (Less.of (fac (mm (fun _ => get_here) (fun _ => get_here)) (fac (mm (fun _ => (get_there (by omega) get_here)) (fun _ => (get_there (by omega) get_here))) fan)) (gone_of (by simp only [goneP, memP, List.cons_append, List.nil_append, true_or, or_true, true_and, and_true, or_false] <;> omega))) ?_
        refine RA.ret env_ok ?_
        refine ⟨.inr rfl, [(.agg ⟨(xCk31 s)⟩), (.int .i64 0), (.int .i64 0)], (resL_cons (res_cellA rfl rfl rfl get_here rfl rfl rfl) (resL_cons rfl (resL_cons rfl resL_nil))), (by exfalso; omega), (kc2 (by omega))⟩
     ·
      refine OA.pure (dst := (some 42)) (v := (.bool false)) rfl rfl rfl (Eq.trans (r_bin rfl rfl rfl (b_gtr rfl)) (by first | (rw [decide_eq_false hc2]; done) | (rw [decide_eq_false hc2]; rfl))) ?_
      refine OA.pure (dst := (some 43)) (v := (.bool false)) rfl rfl rfl rfl ?_
      refine OA.off (dst := (some 44)) rfl rfl rfl ?_
      refine OA.off (dst := (some 45)) rfl rfl rfl ?_
      refine OA.off (dst := (some 46)) rfl rfl rfl ?_
      refine OA.off (dst := (some 47)) rfl rfl rfl ?_
      refine OA.off (dst := (some 48)) rfl rfl rfl ?_
      refine OA.pure (dst := (some 49)) (v := (.bool false)) rfl rfl rfl rfl ?_
      refine OA.nil ?_
      intro _
      refine RA.cond (t := false) rfl (fun hc => ?_) (fun hc => ?_)
      · cases hc
      ·
       refine RA.skip env_ok ?_
       intro _
       refine RA.seq hd ?_
       refine RA.region env_ok ?_
       refine OA.pure (dst := (some 56)) (v := (.agg ⟨(xCk31 s)⟩)) rfl rfl rfl (r_loadA rfl rfl rfl rfl get_here rfl rfl rfl) ?_
       refine OA.op1 (dst := none) (v := (.tuple #[])) (n1 := (n2 + 1)) (w := (n, some ⟨[(xCk31 s)], 16, 35, true⟩)) rfl rfl rfl (r_store rfl rfl rfl rfl rfl rfl rfl (get_there (by omega) get_here) rfl rfl (Nat.le_of_ble_eq_true rfl) rfl) (by omega) ?_
       refine OA.pure (dst := (some 7)) (v := (.int .i64 0)) rfl rfl rfl rfl ?_
       refine OA.pure (dst := (some 8)) (v := (.int .i64 0)) rfl rfl rfl rfl ?_
       refine OA.nil ?_
       intro _
       refine RA.weaken (D' := [(n, some ⟨[(xCk31 s)], 16, 35, true⟩), (n2, some ⟨[(xCk31 s)], 16, 35, true⟩)]) hd (Less.of (fac (mm (fun _ => get_here) (fun _ => get_here)) (fac (mm (fun _ => (get_there (by omega) get_here)) (fun _ => (get_there (by omega) get_here))) fan)) (gone_of (by simp only [goneP, memP, List.cons_append, List.nil_append, true_or, or_true, true_and, and_true, or_false] <;> omega))) ?_
       refine RA.ret env_ok ?_
       refine ⟨.inr rfl, [(.agg ⟨(xCk31 s)⟩), (.int .i64 0), (.int .i64 0)], (resL_cons (res_cellA rfl rfl rfl get_here rfl rfl rfl) (resL_cons rfl (resL_cons rfl resL_nil))), (by exfalso; omega), (kc2 (by omega))⟩
end Go.Proofs.Ytdnkhdkflemkeaa.Vt
