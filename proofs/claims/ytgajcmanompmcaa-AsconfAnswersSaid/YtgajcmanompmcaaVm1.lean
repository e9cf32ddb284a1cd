/- The abstract machine: bytes and words in slices. -/
import Derived.Test.YtgajcmanompmcaaVmZ
set_option linter.unusedVariables false
set_option linter.unusedSimpArgs false
namespace Go.Proofs.YtgajcmanompmcaaV
open Go Go.RowKit
def bstr (l : List UInt8) : ByteArray := ⟨l.toArray⟩
def b8 (b : UInt8) : List Value := [.int .u8 ((b.toNat : Nat) : Int)]
def bc (l : List UInt8) : List (List Value) := l.map b8
abbrev L (s : ByteArray) : List UInt8 := s.data.toList
theorem L_bstr (l : List UInt8) : L (bstr l) = l := rfl
theorem bstr_L (s : ByteArray) : bstr (L s) = s := rfl
theorem L_ext {s t : ByteArray} (h : L s = L t) : s = t := ByteArray.ext (Array.ext' h)
theorem L_append (s t : ByteArray) : L (s ++ t) = L s ++ L t := by
  simp only [L]
  rw [ByteArray.data_append, Array.toList_append]
theorem L_len (s : ByteArray) : (L s).length = s.size := by show s.data.toList.length = s.data.size; rw [Array.length_toList]
theorem L_extract (s : ByteArray) (a b : Nat) : L (s.extract a b) = ((L s).drop a).take (b - a) := by
  simp only [L, ByteArray.data_extract, Array.toList_extract]
theorem bstr_size (l : List UInt8) : (bstr l).size = l.length := by
  show l.toArray.size = l.length
  exact List.size_toArray
theorem size_cut (s : ByteArray) (a b : Nat) (h : b ≤ s.size) : (s.extract a b).size = b - a := by rw [ByteArray.size_extract]; omega
theorem L_get (s : ByteArray) (i : Nat) (h : i < s.size) : (L s)[i]? = some (s.get! i) := by
  have h1 : s.get! i = s.data[i]! := rfl
  rw [h1, getElem!_pos s.data i h]
  simp only [L, Array.getElem?_toList]
  rw [Array.getElem?_eq_getElem]
theorem bc_len (l : List UInt8) : (bc l).length = l.length := by simp [bc]
theorem bc_get {l : List UInt8} {i : Nat} (h : i < l.length) : (bc l)[i]? = some (b8 (l.getD i 0)) := by
  rw [bc, List.getElem?_map, List.getD_eq_getElem?_getD, List.getElem?_eq_getElem h]; rfl
theorem bc_set (l : List UInt8) (i : Nat) (b : UInt8) : (bc l).set i (b8 b) = bc (l.set i b) := by rw [bc, bc, List.map_set]
theorem bytesOfL_bc (l : List UInt8) : ∀ s, bytesOfL (bc l) s = some (s ++ bstr l) := by
  induction l with
  | nil => intro s; simp only [bc, List.map_nil, bytesOfL]; congr 1; apply L_ext; rw [L_append, L_bstr, List.append_nil]
  | cons b l ih =>
    intro s
    show bytesOfL ([.int .u8 ((b.toNat : Nat) : Int)] :: bc l) s = _
    simp only [bytesOfL]
    rw [ih]
    congr 1
    apply L_ext
    rw [L_append, L_append, L_bstr, L_bstr, Int.toNat_natCast, UInt8.ofNat_toNat]
    simp [L]
theorem size_lit (a : Array UInt8) : (ByteArray.mk a).size = a.size := rfl
theorem mapWf_get {f : Nat → BitVec 32} {N j : Nat} (h : j < N) : (((List.range N).map f).map W)[j]? = some (W (f j)) := by
  rw [List.getElem?_map, List.getElem?_map, List.getElem?_range h]; rfl
theorem mapWLf_get {f : Nat → BitVec 32} {N j : Nat} (h : j < N) : (((List.range N).map f).map fun x => [W x])[j]? = some [W (f j)] := by
  rw [List.getElem?_map, List.getElem?_map, List.getElem?_range h]; rfl
theorem list_of {α : Type} {d : α} {ws : List α} {f : Nat → α} {N : Nat} (h : ws.length = N) (hf : ∀ j, j < N → ws.getD j d = f j) : ws = (List.range N).map f := by
  apply List.ext_getElem
  · simp [h]
  · intro i h1 h2
    have := hf i (by omega)
    rw [List.getD_eq_getElem?_getD, List.getElem?_eq_getElem h1] at this
    simp at this
    simp [this]
theorem lset_self {α : Type} {d : α} {ws : List α} {i : Nat} {v : α} (h : i < ws.length) : (ws.set i v).getD i d = v := by
  rw [List.getD_eq_getElem?_getD, List.getElem?_set_self h]; rfl
theorem lset_ne {α : Type} {d : α} {ws : List α} {i j : Nat} {v : α} (h : i ≠ j) : (ws.set i v).getD j d = ws.getD j d := by
  rw [List.getD_eq_getElem?_getD, List.getElem?_set_ne h, ← List.getD_eq_getElem?_getD]
section
variable {P : Program} {E : Env} {b : Nat} {σ : Store} {m : Nat} {τ : Tm} {n : Nat} {D : Delta} {Q : Post} {c : Code}
theorem RA.unroll (hd : Dom b σ) (h : RA P E b σ m c τ n D (fun x τ1 n1 D1 => match x with
    | .normal => n ≤ n1 → RA P E b σ m (.loop c) τ1 n1 D1 Q
    | .exit i => Q (.exit i) τ1 n1 D1
    | .ret => Q .ret τ1 n1 D1)) : RA P E b σ m (.loop c) τ n D Q := by
  obtain ⟨x, τ1, n1, e1, D1, h1, h2, h3⟩ := h
  cases x with
  | normal =>
    obtain ⟨x, τ2, n2, e2, D2, g1, g2, g3⟩ := h3 h1.le
    have hs : Sub (app D1 σ) (app e1 (app D σ)) := by rw [← app_append]; exact h2.subApp hd
    refine ⟨x, τ2, n2, _, D2, h1.loopN (g1.mono hs), ?_, g3⟩
    rw [List.append_assoc]
    exact h2.step g2 g1.le
  | exit i => exact ⟨_, _, _, _, _, h1.loopX (by simp), h2, h3⟩
  | ret => exact ⟨_, _, _, _, _, h1.loopX (by simp), h2, h3⟩
end
section
variable {E : Env} [hP : Plain E] {τ : Tm} {o : Oper} {n : Nat} {σ : Store}
variable {t u : Nat} {x y a : Operand} {k k' : IntKind} {i j m l : Nat} {v : Value} {p q r z : Int} {ob ob' : AObj} {e cs : List Value} {ti ei : TI} {op : BinOp} {b : Bool}
theorem r_makeBytes {K elem : Nat} (ho : o.op = .makeSlice t x y) (hx : args1 τ x = some (.int .i64 ((K : Nat) : Int))) (hy : args1 τ y = some (.int .i64 ((K : Nat) : Int))) (ht : E.ty t = some ti) (hd : ti.d = .slice elem) (he : E.ty elem = some ei) (hz : ei.zero = .int .u8 0) (hs : ei.size = 1) (hb : ei.bytes = 1) (hK : K ≤ 1073741824) :
    (aop E τ o).run n σ = some (.slice (some ⟨n, 0, none⟩) K 0, n + 1, [(n, some ⟨bc (List.replicate K 0), 1, elem, true⟩)]) := by
  rw [aop_plain]
  unfold aop0
  simp only [ho, ev, hx, hy, ht, hd, he, hz, hs, hb, Int.toNat_natCast]
  have : (decide (0 ≤ ((K : Nat) : Int)) && decide (((K : Nat) : Int) ≤ ((K : Nat) : Int)) && small K 1 && decide (0 < 1) && decide ((cellsL (.int .u8 0)).length = 1)) = true := by simp [small, hK, cellsL, Value.cells]
  rw [if_pos this]
  simp only [newRowT, T.run, List.length_replicate]
  have : bc (List.replicate K 0) = List.replicate K (cellsL (.int .u8 0)) := by rw [bc, List.map_replicate]; rfl
  rw [this]
theorem r_b2s {s elem c N O : Nat} {si : TI} {lb : List UInt8} {ty : Nat} (ho : o.op = .convert s t x) (hx : args1 τ x = some (.slice (some ⟨i, O, none⟩) N c)) (hs : E.ty s = some si) (ht : E.ty t = some ti) (hsd : si.d = .slice elem) (htd : ti.d = .string) (he : E.ty elem = some ei) (hd : ei.d = .int .u8)
    {w : Bool} (hσ : σ i = some ⟨bc lb, 1, ty, w⟩) (hl : O + N ≤ lb.length) : (aop E τ o).run n σ = some (.string (bstr ((lb.drop O).take N)), n, []) := by
  rw [aop_plain]
  unfold aop0
  simp only [ho, ev, hx, hs, ht, hsd, htd, he, hd]
  unfold astr
  by_cases hN : N = 0
  · subst hN
    simp only [if_true, T.run, List.take_zero]
    rfl
  · simp only [if_neg hN, T.run, hσ]
    have h1 : ((bc lb).drop O).take N = bc ((lb.drop O).take N) := by simp only [bc, List.map_drop, List.map_take]
    have h2 : (((bc lb).drop O).take N).length = N := by rw [h1, bc_len, List.length_take, List.length_drop]; omega
    rw [if_pos ⟨trivial, h2⟩, h1, bytesOfL_bc]
    simp only [T.run]
    congr 2
theorem r_s2b {s elem : Nat} {S' : ByteArray} {si : TI} (ho : o.op = .convert s t x) (hx : args1 τ x = some (.string S')) (hs : E.ty s = some si) (ht : E.ty t = some ti) (hsd : si.d = .string) (htd : ti.d = .slice elem) (he : E.ty elem = some ei) (hd : ei.d = .int .u8) :
    (aop E τ o).run n σ = some (.slice (some ⟨n, 0, none⟩) S'.size 0, n + 1, [(n, some ⟨bc (L S'), 1, elem, true⟩)]) := by
  rw [aop_plain]
  unfold aop0
  simp only [ho, ev, hx, hs, ht, hsd, htd, he, hd, T.run]
  rfl
theorem r_loadB {lb : List UInt8} {ty : Nat} {w : Bool} (ho : o.op = .load t a) (ha : args1 τ a = some (.pointer (some ⟨i, m, some 0⟩))) (ht : E.ty t = some ti) (hz : ti.size = 1) (hg : isAgg ti.d = false) (hσ : σ i = some ⟨bc lb, 1, ty, w⟩) (hm : m < lb.length) : (aop E τ o).run n σ = some (.int .u8 (((lb.getD m 0).toNat : Nat) : Int), n, []) :=
  r_load1 ho ha ht hz hg hσ (bc_get hm) rfl
theorem r_storeB {lb : List UInt8} {B' : UInt8} {ty : Nat} (ho : o.op = .store t a x) (ha : args1 τ a = some (.pointer (some ⟨i, m, some 0⟩))) (hx : args1 τ x = some (.int .u8 ((B'.toNat : Nat) : Int))) (ht : E.ty t = some ti) (hz : ti.size = 1) (hσ : σ i = some ⟨bc lb, 1, ty, true⟩) (hm : m < lb.length) : (aop E τ o).run n σ = some (.tuple #[], n, [(i, some ⟨bc (lb.set m B'), 1, ty, true⟩)]) := by
  refine r_store (cs := b8 B') ho ha hx ht rfl (by rw [hz]; rfl) rfl hσ rfl (bc_get hm) (by rw [hz]; show 0 + 1 ≤ 1; omega) ?_
  show ({es := (bc lb).set m _, sz := 1, t := ty, w := true} : AObj) = _
  rw [← bc_set]
  rfl
/-! slices of words -/
abbrev WL (x : BitVec 32) : List Value := [W x]
omit hP in
theorem mapWL_get {ws : List (BitVec 32)} {j : Nat} (h : j < ws.length) : (ws.map WL)[j]? = some (WL (ws.getD j 0)) := by
  rw [List.getElem?_map, List.getD_eq_getElem?_getD, List.getElem?_eq_getElem h]; rfl
theorem r_loadWL {ws : List (BitVec 32)} {ty : Nat} {w : Bool} (ho : o.op = .load t a) (ha : args1 τ a = some (.pointer (some ⟨i, m, some 0⟩))) (ht : E.ty t = some ti) (hz : ti.size = 1) (hg : isAgg ti.d = false) (hσ : σ i = some ⟨ws.map WL, 1, ty, w⟩) (hm : m < ws.length) : (aop E τ o).run n σ = some (W (ws.getD m 0), n, []) :=
  r_load1 ho ha ht hz hg hσ (mapWL_get hm) rfl
theorem r_storeWL {ws : List (BitVec 32)} {X : BitVec 32} {ty : Nat} (ho : o.op = .store t a x) (ha : args1 τ a = some (.pointer (some ⟨i, m, some 0⟩))) (hx : args1 τ x = some (W X)) (ht : E.ty t = some ti) (hz : ti.size = 1) (hσ : σ i = some ⟨ws.map WL, 1, ty, true⟩) (hm : m < ws.length) : (aop E τ o).run n σ = some (.tuple #[], n, [(i, some ⟨(ws.set m X).map WL, 1, ty, true⟩)]) := by
  refine r_store (cs := WL X) ho ha hx ht rfl (by rw [hz]; rfl) rfl hσ rfl (mapWL_get hm) (by rw [hz]; show 0 + 1 ≤ 1; omega) ?_
  show ({es := (ws.map WL).set m _, sz := 1, t := ty, w := true} : AObj) = _
  rw [List.map_set]
  rfl
omit hP in
theorem b_xor8 (X Y : UInt8) : abin0 E .xor t (.int .u8 ((X.toNat : Nat) : Int)) (.int .u8 ((Y.toNat : Nat) : Int)) = .ret (.int .u8 (((X ^^^ Y).toNat : Nat) : Int)) [] := by
  unfold abin0; simp only [ne_eq, not_true_eq_false, if_false, Op.intBits]
  have h1 : (BitVec.ofInt IntKind.u8.bits ((X.toNat : Nat) : Int) ^^^ BitVec.ofInt IntKind.u8.bits ((Y.toNat : Nat) : Int)).toNat = (X ^^^ Y).toNat := by
    show (BitVec.ofInt 8 ((X.toNat : Nat) : Int) ^^^ BitVec.ofInt 8 ((Y.toNat : Nat) : Int)).toNat = _
    rw [BitVec.ofInt_natCast, BitVec.ofInt_natCast, BitVec.toNat_xor, BitVec.toNat_ofNat, BitVec.toNat_ofNat, UInt8.toNat_xor, Nat.mod_eq_of_lt (UInt8.toNat_lt _), Nat.mod_eq_of_lt (UInt8.toNat_lt _)]
  exact congrArg (fun z => T.ret (.int .u8 z) []) (show IntKind.wrap .u8 (((BitVec.ofInt IntKind.u8.bits ((X.toNat : Nat) : Int) ^^^ BitVec.ofInt IntKind.u8.bits ((Y.toNat : Nat) : Int)).toNat : Nat) : Int) = _ from by
    rw [h1]; exact u8_of (by omega) (by have := UInt8.toNat_lt (X ^^^ Y); omega))
omit hP in
theorem b_or8' (X Y : UInt8) : abin0 E .or t (.int .u8 ((X.toNat : Nat) : Int)) (.int .u8 ((Y.toNat : Nat) : Int)) = .ret (.int .u8 (((X ||| Y).toNat : Nat) : Int)) [] := by
  unfold abin0; simp only [ne_eq, not_true_eq_false, if_false, Op.intBits]
  have h1 : (BitVec.ofInt IntKind.u8.bits ((X.toNat : Nat) : Int) ||| BitVec.ofInt IntKind.u8.bits ((Y.toNat : Nat) : Int)).toNat = (X ||| Y).toNat := by
    show (BitVec.ofInt 8 ((X.toNat : Nat) : Int) ||| BitVec.ofInt 8 ((Y.toNat : Nat) : Int)).toNat = _
    rw [BitVec.ofInt_natCast, BitVec.ofInt_natCast, BitVec.toNat_or, BitVec.toNat_ofNat, BitVec.toNat_ofNat, UInt8.toNat_or, Nat.mod_eq_of_lt (UInt8.toNat_lt _), Nat.mod_eq_of_lt (UInt8.toNat_lt _)]
  exact congrArg (fun z => T.ret (.int .u8 z) []) (show IntKind.wrap .u8 (((BitVec.ofInt IntKind.u8.bits ((X.toNat : Nat) : Int) ||| BitVec.ofInt IntKind.u8.bits ((Y.toNat : Nat) : Int)).toNat : Nat) : Int) = _ from by
    rw [h1]; exact u8_of (by omega) (by have := UInt8.toNat_lt (X ||| Y); omega))
theorem wrap_u8n (z : Nat) : IntKind.wrap .u8 (z : Int) = (((UInt8.ofNat z).toNat : Nat) : Int) := by
  rw [IntKind.wrap_u8]
  have : (UInt8.ofNat z).toNat = z % 256 := by simp [UInt8.toNat_ofNat']
  omega
end
end Go.Proofs.YtgajcmanompmcaaV
