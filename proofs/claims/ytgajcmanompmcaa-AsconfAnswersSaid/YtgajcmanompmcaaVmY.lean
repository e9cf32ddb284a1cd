/- The abstract machine: what each operation makes of values that are not known. -/
import Derived.Test.YtgajcmanompmcaaVmX
import Derived.Laws.Strings
set_option linter.unusedVariables false
set_option linter.unusedSimpArgs false
namespace Go.Proofs.YtgajcmanompmcaaV
open Go Go.RowKit

/-- An environment without tables. -/
class Plain (E : Env) : Prop where
  s : ∀ k op l, E.sfind k op l = none
section
variable {E : Env} [hP : Plain E] {τ : Tm} {o : Oper} {n : Nat} {σ : Store}
theorem aop_plain : aop E τ o = aop0 E τ o := by
  unfold aop sop
  split
  · rename_i v h
    split at h
    · split at h
      · rw [hP.s] at h; cases h
      · cases h
    · cases h
  · rfl
variable {t u : Nat} {x y a : Operand} {k k' : IntKind} {i j m l : Nat} {v : Value} {p q r z : Int} {ob ob' : AObj} {e cs : List Value} {ti ei : TI} {op : BinOp} {b : Bool}
/-- An operation on numbers. -/
theorem r_bin (ho : o.op = .binOp op t x y u) (hx : args1 τ x = some (.int k p)) (hy : args1 τ y = some (.int k' q)) (h : abin0 E op t (.int k p) (.int k' q) = .ret v []) : (aop E τ o).run n σ = some (v, n, []) := by
  rw [aop_plain]
  unfold aop0
  simp only [ho, ev, hx, hy]
  have hg : guardOk E op t x y (.int k p) (.int k' q) = true := by cases op <;> rfl
  rw [if_pos hg]
  unfold abin
  rw [if_neg (by simp [coded]), h]
  rfl
theorem r_binS {s1 s2 : ByteArray} (ho : o.op = .binOp op t x y u) (hx : args1 τ x = some (.string s1)) (hy : args1 τ y = some (.string s2)) (h : Op.stringOp op s1 s2 = .pure v) : (aop E τ o).run n σ = some (v, n, []) := by
  rw [aop_plain]
  unfold aop0
  simp only [ho, ev, hx, hy]
  have hg : guardOk E op t x y (.string s1) (.string s2) = true := by cases op <;> rfl
  rw [if_pos hg]
  unfold abin
  rw [if_neg (by simp [coded])]
  unfold abin0
  cases op <;> simp only [h, ofSem, T.run]
/-! numbers of 64 bits -/
omit hP in
theorem b_add (h : k.wrap (p + q) = r) : abin0 E .add t (.int k p) (.int k q) = .ret (.int k r) [] := by
  unfold abin0; simp only [ne_eq, not_true_eq_false, if_false, Op.intArith]; rw [h]; rfl
omit hP in
theorem b_sub (h : k.wrap (p - q) = r) : abin0 E .sub t (.int k p) (.int k q) = .ret (.int k r) [] := by
  unfold abin0; simp only [ne_eq, not_true_eq_false, if_false, Op.intArith]; rw [h]; rfl
omit hP in
theorem b_mul (h : k.wrap (p * q) = r) : abin0 E .mul t (.int k p) (.int k q) = .ret (.int k r) [] := by
  unfold abin0; simp only [ne_eq, not_true_eq_false, if_false, Op.intArith]; rw [h]; rfl
omit hP in
theorem b_quo (h0 : q ≠ 0) (h : k.wrap (p.tdiv q) = r) : abin0 E .quo t (.int k p) (.int k q) = .ret (.int k r) [] := by
  unfold abin0; simp only [ne_eq, not_true_eq_false, if_false, Op.intDiv, h0]; rw [h]; rfl
omit hP in
theorem b_rem (h0 : q ≠ 0) (h : p.tmod q = r) : abin0 E .rem t (.int k p) (.int k q) = .ret (.int k r) [] := by
  unfold abin0; simp only [ne_eq, not_true_eq_false, if_false, Op.intDiv, h0]; rw [h]; rfl
omit hP in
theorem b_shr (h0 : 0 ≤ q) (h : p.fdiv (2 ^ (min q.toNat k.bits)) = r) : abin0 E .shr t (.int k p) (.int k' q) = .ret (.int k r) [] := by
  unfold abin0; simp only [Op.shift, if_neg (show ¬ q < 0 by omega)]; rw [h]; rfl
omit hP in
theorem b_shl (h0 : 0 ≤ q) (h : k.wrap (p * 2 ^ (min q.toNat k.bits)) = r) : abin0 E .shl t (.int k p) (.int k' q) = .ret (.int k r) [] := by
  unfold abin0; simp only [Op.shift, if_neg (show ¬ q < 0 by omega)]; rw [h]; rfl
omit hP in
theorem b_lss (h : decide (p < q) = b) : abin0 E .lss t (.int k p) (.int k q) = .ret (.bool b) [] := by subst h; unfold abin0; simp [Op.intCmp, ofSem]; rfl
omit hP in
theorem b_leq (h : decide (p ≤ q) = b) : abin0 E .leq t (.int k p) (.int k q) = .ret (.bool b) [] := by subst h; unfold abin0; simp [Op.intCmp, ofSem]; rfl
omit hP in
theorem b_gtr (h : decide (q < p) = b) : abin0 E .gtr t (.int k p) (.int k q) = .ret (.bool b) [] := by subst h; unfold abin0; simp [Op.intCmp, ofSem]; rfl
omit hP in
theorem b_geq (h : decide (q ≤ p) = b) : abin0 E .geq t (.int k p) (.int k q) = .ret (.bool b) [] := by subst h; unfold abin0; simp [Op.intCmp, ofSem]; rfl
omit hP in
theorem b_eql (h : decide (p = q) = b) : abin0 E .eql t (.int k p) (.int k q) = .ret (.bool b) [] := by
  subst h; unfold abin0; simp [Op.intCmp, ofSem]
  rw [show (p == q) = decide (p = q) from rfl]; rfl
omit hP in
theorem b_neq (h : decide (p ≠ q) = b) : abin0 E .neq t (.int k p) (.int k q) = .ret (.bool b) [] := by
  subst h; unfold abin0; simp [Op.intCmp, ofSem]
  rw [show (p != q) = decide (p ≠ q) by simp [bne, decide_not]; rfl]; simp; rfl
theorem i64_of {c : Int} (h1 : -9223372036854775808 ≤ c) (h2 : c ≤ 9223372036854775807) : IntKind.wrap .i64 c = c := by rw [IntKind.wrap_i64]; omega
theorem u32_of {c : Int} (h1 : 0 ≤ c) (h2 : c < 4294967296) : IntKind.wrap .u32 c = c := by rw [IntKind.wrap_u32]; omega
theorem u64_of {c : Int} (h1 : 0 ≤ c) (h2 : c < 18446744073709551616) : IntKind.wrap .u64 c = c := by rw [IntKind.wrap_u64]; omega
theorem u8_of {c : Int} (h1 : 0 ≤ c) (h2 : c < 256) : IntKind.wrap .u8 c = c := by rw [IntKind.wrap_u8]; omega
/-! words of 32 bits -/
abbrev W (x : BitVec 32) : Value := .int .u32 (x.toNat : Int)
theorem wrapW (c : BitVec 32) : IntKind.wrap .u32 (c.toNat : Int) = c.toNat := u32_of (by omega) (by have := c.isLt; omega)
theorem ofW (x : BitVec 32) : BitVec.ofInt IntKind.u32.bits (x.toNat : Int) = x := by
  show BitVec.ofInt 32 (x.toNat : Int) = x
  apply BitVec.eq_of_toNat_eq
  rw [BitVec.toNat_ofInt]
  have := x.isLt
  omega
omit hP in
theorem b_addW (X Y : BitVec 32) : abin0 E .add t (W X) (W Y) = .ret (W (X + Y)) [] := b_add (by
  rw [BitVec.toNat_add, IntKind.wrap_u32]; have := X.isLt; have := Y.isLt; omega)
omit hP in
theorem b_subW (X Y : BitVec 32) : abin0 E .sub t (W X) (W Y) = .ret (W (X - Y)) [] := b_sub (by
  rw [BitVec.toNat_sub, IntKind.wrap_u32]; have := X.isLt; have := Y.isLt; omega)
omit hP in
theorem b_andW (X Y : BitVec 32) : abin0 E .and t (W X) (W Y) = .ret (W (X &&& Y)) [] := by
  unfold abin0; simp only [ne_eq, not_true_eq_false, if_false, Op.intBits, W]; rw [ofW, ofW]
  exact congrArg (fun z => T.ret (.int .u32 z) []) (wrapW (X &&& Y))
omit hP in
theorem b_orW (X Y : BitVec 32) : abin0 E .or t (W X) (W Y) = .ret (W (X ||| Y)) [] := by
  unfold abin0; simp only [ne_eq, not_true_eq_false, if_false, Op.intBits, W]; rw [ofW, ofW]
  exact congrArg (fun z => T.ret (.int .u32 z) []) (wrapW (X ||| Y))
omit hP in
theorem b_xorW (X Y : BitVec 32) : abin0 E .xor t (W X) (W Y) = .ret (W (X ^^^ Y)) [] := by
  unfold abin0; simp only [ne_eq, not_true_eq_false, if_false, Op.intBits, W]; rw [ofW, ofW]
  exact congrArg (fun z => T.ret (.int .u32 z) []) (wrapW (X ^^^ Y))
omit hP in
theorem b_shlW (X : BitVec 32) {s : Nat} (h : q = (s : Nat)) : abin0 E .shl t (W X) (.int k' q) = .ret (W (X <<< s)) [] := by
  subst h
  refine b_shl (by omega) ?_
  rw [Int.toNat_natCast, BitVec.toNat_shiftLeft, IntKind.wrap_u32, Nat.shiftLeft_eq]
  show ((X.toNat : Int) * 2 ^ (min s 32)) % 4294967296 = _
  rcases Nat.lt_or_ge s 32 with hs | hs
  · rw [Nat.min_eq_left (by omega), Int.natCast_emod, Int.natCast_mul, Int.natCast_pow]; rfl
  · rw [Nat.min_eq_right hs]
    have h1 : ((X.toNat : Int) * 2 ^ 32) % 4294967296 = 0 := by
      show ((X.toNat : Int) * 4294967296) % 4294967296 = 0
      omega
    have h2 : (X.toNat * 2 ^ s) % 2 ^ 32 = 0 := by
      obtain ⟨d, rfl⟩ := Nat.exists_eq_add_of_le hs
      rw [Nat.pow_add, ← Nat.mul_assoc, Nat.mul_right_comm, Nat.mul_mod_left]
    rw [h1, h2]; rfl
omit hP in
theorem b_shrW (X : BitVec 32) {s : Nat} (h : q = (s : Nat)) : abin0 E .shr t (W X) (.int k' q) = .ret (W (X >>> s)) [] := by
  subst h
  refine b_shr (by omega) ?_
  rw [Int.toNat_natCast, BitVec.toNat_ushiftRight, Nat.shiftRight_eq_div_pow]
  show ((X.toNat : Int)).fdiv (2 ^ (min s 32)) = _
  rcases Nat.lt_or_ge s 32 with hs | hs
  · rw [Nat.min_eq_left (by omega), Int.fdiv_eq_ediv_of_nonneg _ (Int.pow_nonneg (by decide))]; push_cast; rfl
  · rw [Nat.min_eq_right hs]
    have hx := X.isLt
    have h1 : X.toNat / 2 ^ s = 0 := Nat.div_eq_of_lt (Nat.lt_of_lt_of_le hx (Nat.pow_le_pow_right (by decide) hs))
    rw [h1, Int.fdiv_eq_ediv_of_nonneg _ (by decide)]
    show (X.toNat : Int) / 4294967296 = _
    omega
theorem r_notW {X : BitVec 32} (ho : o.op = .unOp .xor t x) (hx : args1 τ x = some (W X)) : (aop E τ o).run n σ = some (W (~~~X), n, []) := by
  rw [aop_plain]
  unfold aop0
  simp only [ho, ev, hx]
  have : Op.unary .xor (.int .u32 (X.toNat : Int)) = .pure (W (~~~X)) := by
    show Op.intBits .xor .u32 4294967295 (X.toNat : Int) = _
    unfold Op.intBits
    simp only
    rw [ofW]
    have h1 : ∀ Y : BitVec 32, Y = BitVec.allOnes 32 → Y ^^^ X = ~~~X := fun Y hY => by rw [hY, BitVec.allOnes_xor]
    have h2 := h1 (BitVec.ofInt IntKind.u32.bits 4294967295) (show BitVec.ofInt 32 4294967295 = BitVec.allOnes 32 by decide)
    exact congrArg (fun z : BitVec 32 => Sem.pure (Value.int .u32 (IntKind.wrap .u32 (z.toNat : Int)))) h2 |>.trans (congrArg (fun z => Sem.pure (Value.int .u32 z)) (wrapW (~~~X)))
  simp only [W] at this
  rw [this]
  rfl
/-! objects -/
theorem get_here {i : Nat} {o : Option AObj} {d : Delta} : app ((i, o) :: d) σ i = o := by simp [app]
theorem get_there {i j : Nat} {o r : Option AObj} {d : Delta} (hn : j ≠ i) (h : app d σ j = r) : app ((i, o) :: d) σ j = r := by simp only [app]; rw [if_neg hn]; exact h
theorem r_load1 (ho : o.op = .load t a) (ha : args1 τ a = some (.pointer (some ⟨i, m, some j⟩))) (ht : E.ty t = some ti) (hz : ti.size = 1) (hg : isAgg ti.d = false) (hσ : σ i = some ob) (he : ob.es[m]? = some e) (hv : e[j]? = some v) : (aop E τ o).run n σ = some (v, n, []) := by
  rw [aop_plain]
  unfold aop0
  simp only [ho, ev, ha, ht, T.run, hσ, he]
  have hl : j < e.length := (List.getElem?_eq_some_iff.1 hv).1
  have : (e.drop j).take ti.size = [v] := by
    rw [hz, List.drop_eq_getElem_cons hl, (List.getElem?_eq_some_iff.1 hv).2]
    rfl
  rw [this, hz]
  simp [mkv, hg, orFail, T.run]
theorem r_loadA (ho : o.op = .load t a) (ha : args1 τ a = some (.pointer (some ⟨i, m, some j⟩))) (ht : E.ty t = some ti) (hg : isAgg ti.d = true) (hσ : σ i = some ob) (he : ob.es[m]? = some e) (hv : (e.drop j).take ti.size = cs) (hl : cs.length = ti.size) : (aop E τ o).run n σ = some (.agg ⟨cs⟩, n, []) := by
  rw [aop_plain]
  unfold aop0
  simp only [ho, ev, ha, ht, T.run, hσ, he, hv, hl, if_true, mkv, hg, orFail]
theorem r_store (ho : o.op = .store t a x) (ha : args1 τ a = some (.pointer (some ⟨i, m, some j⟩))) (hx : args1 τ x = some v) (ht : E.ty t = some ti) (hc : cellsL v = cs) (hl : cs.length = ti.size) (hb : cs.all oneB = true) (hσ : σ i = some ob) (hw : ob.w = true) (he : ob.es[m]? = some e) (hj : j + ti.size ≤ e.length) (hn : { ob with es := ob.es.set m (ov e j cs) } = ob') : (aop E τ o).run n σ = some (.tuple #[], n, [(i, some ob')]) := by
  rw [aop_plain]
  unfold aop0
  subst hn
  subst hc
  simp only [ho, ev, ha, hx, ht, T.run, hσ, he]
  have : (decide (j + ti.size ≤ e.length) && (cellsL v).length = ti.size && (cellsL v).all oneB && ob.w) = true := by simp [hj, hl, hb, hw]
  rw [if_pos this]
  rfl
theorem ov_one {α : Type} {e : List α} {j : Nat} (v : α) (h : j < e.length) : ov e j [v] = e.set j v := by
  unfold ov
  rw [List.set_eq_take_append_cons_drop, if_pos h]
  simp
theorem ov_all {α : Type} {e c : List α} (h : e.length = c.length) : ov e 0 c = c := by
  unfold ov
  simp [← h]
theorem r_indexAddrA {len elem : Nat} (ho : o.op = .indexAddr t x y) (hx : args1 τ x = some (.pointer (some ⟨i, m, some j⟩))) (hy : args1 τ y = some (.int k z)) (ht : E.ty t = some ti) (hd : ti.d = .array len elem) (he : E.ty elem = some ei) (hz : z = (l : Nat)) (hl : l < len) (hj : j + l * ei.size = q.toNat) : (aop E τ o).run n σ = some (.pointer (some ⟨i, m, some q.toNat⟩), n, []) := by
  rw [aop_plain]
  unfold aop0
  subst hz
  simp only [ho, ev, hx, hy, ht, hd, he, Int.toNat_natCast, hj]
  rw [if_pos (by simp; omega)]
  rfl
theorem r_indexAddrS {elem : Nat} {i' c L : Nat} (ho : o.op = .indexAddr t x y) (hx : args1 τ x = some (.slice (some ⟨i, m, none⟩) L c)) (hy : args1 τ y = some (.int k z)) (ht : E.ty t = some ti) (hd : ti.d = .slice elem) (he : E.ty elem = some ei) (hz : z = (l : Nat)) (hl : l < L) (hσ : σ i = some ob) (hs : ob.sz = ei.size) : (aop E τ o).run n σ = some (.pointer (some ⟨i, m + l, some 0⟩), n, []) := by
  rw [aop_plain]
  unfold aop0
  subst hz
  simp only [ho, ev, hx, hy, ht, hd, he, Int.toNat_natCast]
  rw [if_pos (by simp; omega)]
  simp only [T.run, hσ, hs, if_true]
theorem r_indexA {len elem : Nat} {cl : Array Value} (ho : o.op = .index t x y) (hx : args1 τ x = some (.agg cl)) (hy : args1 τ y = some (.int k z)) (ht : E.ty t = some ti) (hd : ti.d = .array len elem) (he : E.ty elem = some ei) (hz : z = (l : Nat)) (hl : l < len) (hv : part E elem cl.toList (l * ei.size) = some v) : (aop E τ o).run n σ = some (v, n, []) := by
  rw [aop_plain]
  unfold aop0
  subst hz
  simp only [ho, ev, hx, hy, ht, hd, he, Int.toNat_natCast]
  rw [if_pos (by simp; omega), hv]
  rfl
theorem r_indexS {s : ByteArray} (ho : o.op = .index t x y) (hx : args1 τ x = some (.string s)) (hy : args1 τ y = some (.int k z)) (ht : E.ty t = some ti) (hd : ti.d = .string) (hz : z = (l : Nat)) (hl : l < s.size) : (aop E τ o).run n σ = some (.int .u8 ((s[l]'hl).toNat : Nat), n, []) := by
  rw [aop_plain]
  unfold aop0
  subst hz
  simp only [ho, ev, hx, hy, ht, hd, Int.toNat_natCast]
  rw [dif_pos ⟨by omega, hl⟩]
  rfl
theorem r_cut {s s' : ByteArray} {lo hi : Option Operand} {vlo vhi : Option Value} {a b : Nat} (ho : o.op = .slice t x lo hi none) (hx : args1 τ x = some (.string s)) (hlo : ∀ k, evO τ lo k = k vlo) (hhi : ∀ k, evO τ hi k = k vhi) (ht : E.ty t = some ti) (hd : ti.d = .string) (h1 : bound vlo 0 = some a) (h2 : bound vhi s.size = some b) (h3 : a ≤ b) (h4 : b ≤ s.size) (h5 : s.extract a b = s') : (aop E τ o).run n σ = some (.string s', n, []) := by
  rw [aop_plain]
  unfold aop0
  have hno : ∀ k, evO τ none k = k none := fun _ => rfl
  simp only [ho, ev, hx, hlo, hhi, hno]
  simp only [aslice2, ghostOk]
  unfold aslice
  simp only [ht, hd, h1, h2, h5]
  rw [if_neg (by simp), if_pos (by simp [h3, h4])]
  rfl
theorem i64_eq {c r : Int} (h : r = c ∧ -9223372036854775808 ≤ r ∧ r ≤ 9223372036854775807) : IntKind.wrap .i64 c = r := by rw [IntKind.wrap_i64]; omega
theorem i32_eq {c r : Int} (h : r = c ∧ -2147483648 ≤ r ∧ r ≤ 2147483647) : IntKind.wrap .i32 c = r := by rw [IntKind.wrap_i32]; omega
theorem u64_eq {c r : Int} (h : r = c ∧ 0 ≤ r ∧ r < 18446744073709551616) : IntKind.wrap .u64 c = r := by rw [IntKind.wrap_u64]; omega
theorem u32_eq {c r : Int} (h : r = c ∧ 0 ≤ r ∧ r < 4294967296) : IntKind.wrap .u32 c = r := by rw [IntKind.wrap_u32]; omega
theorem u8_eq {c r : Int} (h : r = c ∧ 0 ≤ r ∧ r < 256) : IntKind.wrap .u8 c = r := by rw [IntKind.wrap_u8]; omega
theorem wrap_ofInt32 (z : Int) : IntKind.wrap .u32 z = ((BitVec.ofInt 32 z).toNat : Int) := by
  rw [IntKind.wrap_u32, BitVec.toNat_ofInt]; omega
theorem wrap_ofNat32 (z : Nat) : IntKind.wrap .u32 (z : Int) = ((BitVec.ofNat 32 z).toNat : Int) := by
  rw [IntKind.wrap_u32, BitVec.toNat_ofNat]; omega
omit hP in
theorem b_shl8 {a : Nat} (h : a < 72057594037927936) : abin0 E .shl t (.int .u64 (a : Int)) (.int .u64 8) = .ret (.int .u64 ((a * 256 : Nat) : Int)) [] := b_shl (by decide) (by
  rw [IntKind.wrap_u64]
  show ((a : Int) * 256) % 18446744073709551616 = _
  omega)
omit hP in
theorem b_or8 {a c : Nat} (h : a < 72057594037927936) (hc : c < 256) : abin0 E .or t (.int .u64 ((a * 256 : Nat) : Int)) (.int .u64 (c : Int)) = .ret (.int .u64 ((a * 256 + c : Nat) : Int)) [] := by
  unfold abin0; simp only [ne_eq, not_true_eq_false, if_false, Op.intBits]
  have h1 : (BitVec.ofInt IntKind.u64.bits ((a * 256 : Nat) : Int) ||| BitVec.ofInt IntKind.u64.bits (c : Int)).toNat = a * 256 + c := by
    show (BitVec.ofInt 64 ((a * 256 : Nat) : Int) ||| BitVec.ofInt 64 (c : Int)).toNat = _
    rw [BitVec.ofInt_natCast, BitVec.ofInt_natCast, BitVec.toNat_or, BitVec.toNat_ofNat, BitVec.toNat_ofNat, Nat.mod_eq_of_lt (by omega), Nat.mod_eq_of_lt (by omega), Nat.mul_comm]
    exact (Nat.two_pow_add_eq_or_of_lt (i := 8) hc a).symm
  exact congrArg (fun z => T.ret (.int .u64 z) []) (show IntKind.wrap .u64 (((BitVec.ofInt IntKind.u64.bits ((a * 256 : Nat) : Int) ||| BitVec.ofInt IntKind.u64.bits (c : Int)).toNat : Nat) : Int) = _ from by rw [h1]; exact u64_of (by omega) (by omega))
omit hP in
theorem bound_nat {a d : Nat} : bound (some (.int k ((a : Nat) : Int))) d = some a := by
  show (if 0 ≤ ((a : Nat) : Int) then some ((a : Nat) : Int).toNat else none) = some a
  rw [if_pos (by omega)]
  rfl
theorem r_iaA {len elem J : Nat} (ho : o.op = .indexAddr t x y) (hx : args1 τ x = some (.pointer (some ⟨i, m, some j⟩))) (hy : args1 τ y = some (.int k z)) (ht : E.ty t = some ti) (hd : ti.d = .array len elem) (he : E.ty elem = some ei) (hz : z = (l : Nat)) (hl : l < len) (hj : j + l * ei.size = J) : (aop E τ o).run n σ = some (.pointer (some ⟨i, m, some J⟩), n, []) := by
  rw [aop_plain]
  unfold aop0
  subst hz
  subst hj
  simp only [ho, ev, hx, hy, ht, hd, he, Int.toNat_natCast]
  rw [if_pos (by simp; omega)]
  rfl
theorem r_iaS {elem : Nat} {c L J : Nat} (ho : o.op = .indexAddr t x y) (hx : args1 τ x = some (.slice (some ⟨i, m, none⟩) L c)) (hy : args1 τ y = some (.int k z)) (ht : E.ty t = some ti) (hd : ti.d = .slice elem) (he : E.ty elem = some ei) (hz : z = (l : Nat)) (hl : l < L) (hσ : σ i = some ob) (hs : ob.sz = ei.size) (hJ : J = m + l) : (aop E τ o).run n σ = some (.pointer (some ⟨i, J, some 0⟩), n, []) := by
  subst hJ
  exact r_indexAddrS (i' := 0) ho hx hy ht hd he hz hl hσ hs
theorem mapW_get {ws : List (BitVec 32)} {j : Nat} (h : j < ws.length) : (ws.map W)[j]? = some (W (ws.getD j 0)) := by
  rw [List.getElem?_map, List.getD_eq_getElem?_getD, List.getElem?_eq_getElem h]; rfl
theorem mapW_one (ws : List (BitVec 32)) : (ws.map W).all oneB = true := by
  rw [List.all_eq_true]; intro x hx; rw [List.mem_map] at hx; obtain ⟨y, _, rfl⟩ := hx; rfl
theorem take_all {α : Type} {e : List α} {k : Nat} (h : e.length = k) : (e.drop 0).take k = e := by subst h; simp
theorem r_storeW {ws : List (BitVec 32)} {X : BitVec 32} {sz ty : Nat} (ho : o.op = .store t a x) (ha : args1 τ a = some (.pointer (some ⟨i, 0, some j⟩))) (hx : args1 τ x = some (W X)) (ht : E.ty t = some ti) (hz : ti.size = 1) (hz2 : [W X].all oneB = true) (hσ : σ i = some ⟨[ws.map W], sz, ty, true⟩) (hj : j < ws.length) : (aop E τ o).run n σ = some (.tuple #[], n, [(i, some ⟨[(ws.set j X).map W], sz, ty, true⟩)]) := by
  refine r_store ho ha hx ht rfl (by rw [hz]; rfl) rfl hσ rfl rfl (by rw [hz]; simp; omega) ?_
  simp only [List.set_cons_zero, AObj.mk.injEq, and_true]
  show [ov (ws.map W) j [W X]] = _
  rw [ov_one _ (by simpa using hj), List.map_set]
theorem r_storeAll {ob : AObj} {es : List (List Value)} (ho : o.op = .store t a x) (ha : args1 τ a = some (.pointer (some ⟨i, 0, some 0⟩))) (hx : args1 τ x = some (.agg ⟨cs⟩)) (ht : E.ty t = some ti) (hl : cs.length = ti.size) (hb : cs.all oneB = true) (hσ : σ i = some ob) (hw : ob.w = true) (he : ob.es = e :: es) (hel : e.length = ti.size) : (aop E τ o).run n σ = some (.tuple #[], n, [(i, some ⟨cs :: es, ob.sz, ob.t, true⟩)]) := by
  refine r_store ho ha hx ht rfl hl hb hσ hw (m := 0) (by rw [he]; rfl) (by omega) ?_
  rw [he]
  simp only [List.set_cons_zero]
  show ({ob with es := ov e 0 cs :: es} : AObj) = _
  rw [ov_all (by omega)]
  obtain ⟨a1, a2, a3, a4⟩ := ob
  simp at hw
  simp [hw]
theorem r_cat {s1 s2 : ByteArray} (ho : o.op = .binOp .add t x y u) (hx : args1 τ x = some (.string s1)) (hy : args1 τ y = some (.string s2)) (h : s1.size + s2.size ≤ 9223372036854775807) : (aop E τ o).run n σ = some (.string (s1 ++ s2), n, []) := by
  refine r_binS ho hx hy ?_
  unfold Op.stringOp
  simp only
  rw [if_neg]
  · rfl
  · show ¬ (((s1.size + s2.size : Nat) : Int) > 9223372036854775807)
    omega
theorem beq_bytes (s1 s2 : ByteArray) : (s1.toList == s2.toList) = decide (s1 = s2) := by
  rw [ByteArray.toList_eq, ByteArray.toList_eq, Bool.eq_iff_iff]
  simp only [beq_iff_eq, decide_eq_true_eq]
  exact ⟨fun h => ByteArray.ext (Array.ext' h), fun h => by rw [h]⟩
theorem r_eqlS {s1 s2 : ByteArray} (ho : o.op = .binOp .eql t x y u) (hx : args1 τ x = some (.string s1)) (hy : args1 τ y = some (.string s2)) : (aop E τ o).run n σ = some (.bool (decide (s1 = s2)), n, []) := by
  refine r_binS ho hx hy ?_
  unfold Op.stringOp
  simp only [beq_bytes]
  rfl
theorem r_neqS {s1 s2 : ByteArray} (ho : o.op = .binOp .neq t x y u) (hx : args1 τ x = some (.string s1)) (hy : args1 τ y = some (.string s2)) : (aop E τ o).run n σ = some (.bool (!(decide (s1 = s2))), n, []) := by
  refine r_binS ho hx hy ?_
  unfold Op.stringOp
  simp only [beq_bytes]
  rfl
omit hP in
theorem b_quoN {a c : Nat} (h0 : 0 < c) (h : k.wrap ((a / c : Nat) : Int) = ((a / c : Nat) : Int)) : abin0 E .quo t (.int k (a : Int)) (.int k (c : Int)) = .ret (.int k ((a / c : Nat) : Int)) [] := by
  refine b_quo (by omega) ?_
  rw [← h]
  congr 1
omit hP in
theorem b_remN {a c : Nat} (h0 : 0 < c) : abin0 E .rem t (.int k (a : Int)) (.int k (c : Int)) = .ret (.int k ((a % c : Nat) : Int)) [] := b_rem (by omega) rfl
omit hP in
theorem b_shrN {a c D : Nat} (h : D = 2 ^ (min c k.bits)) : abin0 E .shr t (.int k (a : Int)) (.int k' (c : Int)) = .ret (.int k ((a / D : Nat) : Int)) [] := by
  refine b_shr (by omega) ?_
  subst h
  rw [Int.toNat_natCast, Int.fdiv_eq_ediv_of_nonneg _ (Int.pow_nonneg (by decide))]
  rw [Int.natCast_ediv, Int.natCast_pow]; rfl
theorem r_cvt {si : TI} {s : Nat} (ho : o.op = .convert s t x) (hx : args1 τ x = some (.int k p)) (hs : E.ty s = some si) (ht : E.ty t = some ti) (hd : ti.d = .int k') (hsd : ∃ q, si.d = .int q) (h : k'.wrap p = r) : (aop E τ o).run n σ = some (.int k' r, n, []) := by
  rw [aop_plain]
  unfold aop0
  obtain ⟨q, hq⟩ := hsd
  simp only [ho, ev, hx, hs, ht, hd, hq, h, T.run]
theorem r_idxS {s : ByteArray} (ho : o.op = .index t x y) (hx : args1 τ x = some (.string s)) (hy : args1 τ y = some (.int k z)) (ht : E.ty t = some ti) (hd : ti.d = .string) (hz : z = (l : Nat)) (hl : l < s.size) : (aop E τ o).run n σ = some (.int .u8 ((s.get! l).toNat : Nat), n, []) := by
  rw [r_indexS ho hx hy ht hd hz hl]
  have : s[l]'hl = s.get! l := by
    show s.data[l]'hl = s.data[l]!
    rw [getElem!_pos]
  rw [this]
theorem r_len {s : ByteArray} {cl : Call} {r : List Nat} (ho : o.op = .call cl) (hc : cl.callee = .builtin .len) (ht : cl.argTypes.toList = t :: r) (ha : evL τ cl.args.toList = some [.string s]) (hi : E.ty t = some ti) (hd : ti.d = .string) : (aop E τ o).run n σ = some (.int .i64 s.size, n, []) := by
  rw [aop_plain]
  unfold aop0
  simp only [ho, hc, ha, ht, abuiltin, hi, hd, T.run]
end
/-! ### What is called -/
/-- A call that gives a value and changes nothing. -/
def PS (P : Program) (D : Den) (f : Nat) (args : List Value) (σ : Store) (v : Value) : Prop := ∀ n, Dom n σ → ∃ n', n ≤ n' ∧ SC P D f args n σ v n' []
theorem CQ.ps {P : Program} {D : Den} {f : Nat} {args : List Value} {n : Nat} {σ : Store} {v : Value} {Q : Value → Nat → Delta → Prop} (hd : Dom n σ) (h : PS P D f args σ v) (hQ : ∀ n', n ≤ n' → Q v n' []) : CQ P D f args n σ Q := by
  obtain ⟨n', h1, h2⟩ := h n hd
  exact ⟨v, n', [], h2, hQ n' h1⟩
theorem PS.of_body {P : Program} {E : Env} {c : Code} {σ : Store} (hE : EnvOk P E) {f : Nat} {fn : Func} {args : List Value} {v : Value} (hf : E.fn f = some fn) (hb : fn.body = some c) (hl : args.length ≤ fn.ntmps)
    (h : ∀ n, Dom n σ → RQ P E fn.ntmps c (init args) n σ (fun x τ' n' d0 => (x = .normal ∨ x = .ret) ∧ ∃ vs, resL E τ' (Go.Proofs.YtgajcmanompmcaaV.app d0 σ) fn.results.toList = some vs ∧ one vs = v ∧ ∀ i ∈ keys d0, n ≤ i ∧ i < n')) : PS P E.den f args σ v := by
  intro n hn
  obtain ⟨x, τ', n', d0, h1, hx, vs, hr, rfl, hk⟩ := h n hn
  exact ⟨n', h1.keys.1, .of_body hE hf hb hl h1 hx hr ⟨fun x hx => by simp [keys] at hx, fun x hx => .inr (hk x hx)⟩⟩
theorem PS.mono {P : Program} {D : Den} {f : Nat} {args : List Value} {σ σ2 : Store} {v : Value} (h : PS P D f args σ v) (hs : Sub σ σ2) : PS P D f args σ2 v := fun n hn => by
  obtain ⟨n', h1, h2⟩ := h n (fun i hi => by
    cases ho : σ i with
    | none => rfl
    | some o => have := hs i o ho; rw [hn i hi] at this; cases this)
  exact ⟨n', h1, h2.mono hs⟩
/-- What a closed evaluation tells. -/
theorem Dom.up {n n' : Nat} {σ : Store} (h : Dom n σ) (hn : n ≤ n') : Dom n' σ := fun i hi => h i (by omega)
theorem Dom.new {n : Nat} {σ : Store} (h : Dom n σ) (o : Option AObj) : Dom (n + 1) (Go.Proofs.YtgajcmanompmcaaV.app [(n, o)] σ) := fun i hi => by
  simp only [Go.Proofs.YtgajcmanompmcaaV.app]; rw [if_neg (by omega)]; exact h i (by omega)
theorem Dom.put {n i : Nat} {σ : Store} (h : Dom n σ) (hi : i < n) (o : Option AObj) : Dom n (Go.Proofs.YtgajcmanompmcaaV.app [(i, o)] σ) := fun j hj => by
  simp only [Go.Proofs.YtgajcmanompmcaaV.app]; rw [if_neg (by omega)]; exact h j hj
end Go.Proofs.YtgajcmanompmcaaV
