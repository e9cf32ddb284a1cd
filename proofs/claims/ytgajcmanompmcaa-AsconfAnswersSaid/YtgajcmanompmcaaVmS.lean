/- The abstract machine: its tables, and a law's call. -/
import Derived.Test.YtgajcmanompmcaaVmR
set_option linter.unusedVariables false
set_option linter.unusedSimpArgs false
namespace Go.Proofs.YtgajcmanompmcaaV
open Go.RowKit

inductive Tr (α : Type) where
  | leaf
  | node (k : Nat) (v : α) (l r : Tr α)
def Tr.find {α : Type} : Tr α → Nat → Option α
  | .leaf, _ => none
  | .node k v l r, t => match Nat.beq t k with
    | true => some v
    | false => match Nat.blt t k with
      | true => l.find t
      | false => r.find t
def Tr.All {α : Type} (P : Nat → α → Prop) : Tr α → Prop
  | .leaf => True
  | .node k v l r => P k v ∧ l.All P ∧ r.All P
theorem Tr.find_all {α : Type} {P : Nat → α → Prop} : ∀ {T : Tr α}, T.All P → ∀ {t : Nat} {v : α}, T.find t = some v → P t v
  | .leaf, _, t, v, h => by cases h
  | .node k x l r, hA, t, v, h => by
    unfold Tr.find at h
    split at h
    · rename_i hk
      cases h
      have := Nat.eq_of_beq_eq_true hk
      subst this
      exact hA.1
    · split at h
      · exact Tr.find_all hA.2.1 h
      · exact Tr.find_all hA.2.2 h

def zOk (z : Value) (size : Nat) : Bool := match z with
  | .agg cs => cs.toList.all cl0 && cs.toList.length == size
  | z => cl0 z && size == 1
theorem cl0_one {v : Value} (h : cl0 v = true) : oneB v = true := by
  unfold cl0 at h
  split at h <;> first | rfl | cases h
theorem VRs_cl0 {ι : Inj} : ∀ {l : List Value}, l.all cl0 = true → VRs ι l l
  | [], _ => .nil
  | v :: l, h => by
    simp only [List.all_cons, Bool.and_eq_true] at h
    exact .cons (cl0_VR h.1 ι) (VRs_cl0 h.2)
theorem zOk_spec {z : Value} {size : Nat} (h : zOk z size = true) : (∀ ι, VR ι z z) ∧ (cellsL z).length = size ∧ (cellsL z).all oneB = true := by
  have all1 : ∀ {l : List Value}, l.all cl0 = true → l.all oneB = true := fun h => by
    rw [List.all_eq_true] at h ⊢
    exact fun x hx => cl0_one (h x hx)
  cases z with
  | agg cs =>
    simp only [zOk, Bool.and_eq_true, beq_iff_eq] at h
    obtain ⟨l⟩ := cs
    exact ⟨fun ι => .agg (VRs_cl0 h.1), h.2, all1 h.1⟩
  | _ =>
    simp only [zOk, Bool.and_eq_true, beq_iff_eq] at h
    exact ⟨fun ι => cl0_VR h.1 ι, by rw [h.2]; rfl, by simp [cellsL, Value.cells, cl0_one h.1]⟩

structure TyOk (P : Program) (t : Nat) (i : TI) : Prop where
  und : P.underlying t = some i.d
  inf : ∃ inf, P.info? t = some inf ∧ inf.zero = some i.zero ∧ inf.size = i.size ∧ inf.bytes = i.bytes
  z : zOk i.zero i.size = true
  eq : i.eqok = true → P.eqGuardType P.depth t = false ∧ P.stoodInHeld t = false
theorem TyOk.mk' {P : Program} {t : Nat} {i : TI} (h1 : P.underlying t = some i.d) (h2 : (P.info? t).map (fun x => (x.zero, x.size, x.bytes)) = some (some i.zero, i.size, i.bytes)) (h3 : zOk i.zero i.size = true) (h4 : i.eqok = false ∨ P.eqGuardType P.depth t = false ∧ P.stoodInHeld t = false) : TyOk P t i := by
  refine ⟨h1, ?_, h3, fun h => h4.resolve_left (by simp [h])⟩
  cases hi : P.info? t with
  | none => rw [hi] at h2; cases h2
  | some inf =>
    rw [hi] at h2
    simp at h2
    exact ⟨inf, rfl, h2.1, h2.2.1, h2.2.2⟩
def FnOk (P : Program) (f : Nat) (g : Func) : Prop := P.funcs[f]? = some g ∧ (g.name == "runtime.NumGoroutine") = false
def mkEnv (T : Tr TI) (F : Tr Func) : Env := { ty := T.find, fn := F.find }
theorem mkEnv_ok {P : Program} {T : Tr TI} {F : Tr Func} (hT : T.All (TyOk P)) (hF : F.All (FnOk P)) (hm : P.follows .mixedOrders = true) : EnvOk P (mkEnv T F) where
  ty t i h := ⟨(Tr.find_all hT h).und, (Tr.find_all hT h).inf⟩
  zero t i h := zOk_spec (Tr.find_all hT h).z
  eqok t i h := (Tr.find_all hT h).eq
  fn f g h := Tr.find_all hF h
  mixed := hm
  bin _ _ _ _ h := by cases h
  eqb _ _ _ h := by cases h
  un _ _ _ h := by cases h
  sop τ o v h := by
    unfold sop at h
    split at h
    · split at h <;> cases h
    · cases h
  cvt _ _ _ h := by cases h

/-! ### Numbers that are not known: codes, and a table of what the operations make of them -/
abbrev BRow := BinOp × Value × Value × Value
abbrev URow := UnOp × Value × Value
abbrev CRow := IntKind × Value × Value
def keyEq : Value → Value → Bool
  | .chan (some a), .chan (some b) => Nat.beq a b
  | .int k n, .int k' m => decide (k = k') && decide (n = m)
  | _, _ => false
theorem keyEq_eq {x y : Value} (h : keyEq x y = true) : x = y := by
  unfold keyEq at h
  split at h
  · rw [Nat.eq_of_beq_eq_true h]
  · simp only [Bool.and_eq_true, decide_eq_true_eq] at h
    rw [h.1, h.2]
  · cases h
def bfind : List BRow → BinOp → Value → Value → Option Value
  | [], _, _, _ => none
  | (o, a, b, v) :: r, op, x, y => if (decide (o = op) && keyEq a x && keyEq b y) = true then some v else bfind r op x y
def ufind : List URow → UnOp → Value → Option Value
  | [], _, _ => none
  | (o, a, v) :: r, op, x => if (decide (o = op) && keyEq a x) = true then some v else ufind r op x
def cfind : List CRow → IntKind → Value → Option Value
  | [], _, _ => none
  | (o, a, v) :: r, k, x => if (decide (o = k) && keyEq a x) = true then some v else cfind r k x
def allP {α : Type} (p : α → Prop) : List α → Prop
  | [] => True
  | x :: r => p x ∧ allP p r
abbrev SRow := Nat × BinOp × List Value × Value
def bytesEq : List UInt8 → List UInt8 → Bool
  | [], [] => true
  | a :: l, b :: m => Nat.beq a.toNat b.toNat && bytesEq l m
  | _, _ => false
theorem bytesEq_eq : ∀ {l m : List UInt8}, bytesEq l m = true → l = m
  | [], [], _ => rfl
  | a :: l, b :: m, h => by
    simp only [bytesEq, Bool.and_eq_true] at h
    rw [bytesEq_eq h.2, UInt8.toNat_inj.1 (Nat.eq_of_beq_eq_true h.1)]
  | [], _ :: _, h => by cases h
  | _ :: _, [], h => by cases h
def keyS : Value → Value → Bool
  | .nilFunc, .nilFunc => true
  | .string a, .string b => bytesEq a.data.toList b.data.toList
  | x, y => keyEq x y
theorem keyS_eq {x y : Value} (h : keyS x y = true) : x = y := by
  unfold keyS at h
  split at h
  · rfl
  · have := bytesEq_eq h
    congr 1
    exact ByteArray.ext (Array.ext' this)
  · exact keyEq_eq h
def keysEq : List Value → List Value → Bool
  | [], [] => true
  | a :: l, b :: m => keyS a b && keysEq l m
  | _, _ => false
theorem keysEq_eq : ∀ {l m : List Value}, keysEq l m = true → l = m
  | [], [], _ => rfl
  | a :: l, b :: m, h => by
    simp only [keysEq, Bool.and_eq_true] at h
    rw [keysEq_eq h.2, keyS_eq h.1]
  | [], _ :: _, h => by cases h
  | _ :: _, [], h => by cases h
def sfindL : List SRow → Nat → BinOp → List Value → Option Value
  | [], _, _, _ => none
  | (k', o, l', v) :: r, k, op, l => if (Nat.beq k' k && decide (o = op) && keysEq l' l) = true then some v else sfindL r k op l
inductive DenRs (D : Den) : List Value → List Value → Prop
  | nil : DenRs D [] []
  | cons {v v' : Value} {l l' : List Value} (h : DenR D v v') (hs : DenRs D l l') : DenRs D (v :: l) (v' :: l')
inductive SOk (D : Den) : SRow → Prop
  | index {a b v : Value} {s : ByteArray} {k : IntKind} {n : Int} (h : 0 ≤ n ∧ n.toNat < s.size) (h1 : DenR D a (.string s)) (h2 : DenR D b (.int k n)) (h3 : DenR D v (.int .u8 ((s[n.toNat]'h.2).toNat : Nat))) : SOk D (0, .add, [a, b], v)
  | cut {a lo hi v : Value} {s : ByteArray} {l h : Nat} {k k' : IntKind} (h1 : DenR D a (.string s)) (h2 : DenR D lo (.int k (l : Int))) (h3 : DenR D hi (.int k' (h : Int))) (h4 : l ≤ h) (h5 : h ≤ s.size) (h6 : DenR D v (.string (s.extract l h))) : SOk D (1, .add, [a, lo, hi], v)
  | cutTo {a hi v : Value} {s : ByteArray} {h : Nat} {k' : IntKind} (h1 : DenR D a (.string s)) (h3 : DenR D hi (.int k' (h : Int))) (h5 : h ≤ s.size) (h6 : DenR D v (.string (s.extract 0 h))) : SOk D (6, .add, [a, hi], v)
  | cutFrom {a lo v : Value} {s : ByteArray} {l : Nat} {k : IntKind} (h1 : DenR D a (.string s)) (h2 : DenR D lo (.int k (l : Int))) (h4 : l ≤ s.size) (h6 : DenR D v (.string (s.extract l s.size))) : SOk D (7, .add, [a, lo], v)
  | bin {op : BinOp} {a b v v' : Value} {s t : ByteArray} (h1 : DenR D a (.string s)) (h2 : DenR D b (.string t)) (h3 : DenR D v v') (h4 : Op.stringOp op s t = .pure v') : SOk D (2, op, [a, b], v)
  | len {a v : Value} {s : ByteArray} (h1 : DenR D a (.string s)) (h2 : DenR D v (.int .i64 s.size)) : SOk D (3, .add, [a], v)
  | min {l l' : List Value} {v v' : Value} (h1 : DenRs D l l') (h2 : DenR D v v') (h3 : amin .lss l' = some v') : SOk D (4, .add, l, v)
  | max {l l' : List Value} {v v' : Value} (h1 : DenRs D l l') (h2 : DenR D v v') (h3 : amin .gtr l' = some v') : SOk D (5, .add, l, v)
theorem sfind_ok {D : Den} {k : Nat} {op : BinOp} {l : List Value} {v : Value} : ∀ {ss : List SRow}, allP (SOk D) ss → sfindL ss k op l = some v → SOk D (k, op, l, v)
  | [], _, h => by cases h
  | (k', o, l', u) :: r, ⟨h0, hr⟩, h => by
    unfold sfindL at h
    split at h
    · rename_i hk
      simp only [Bool.and_eq_true, decide_eq_true_eq] at hk
      obtain ⟨⟨h1, rfl⟩, h2⟩ := hk
      cases Nat.eq_of_beq_eq_true h1
      cases keysEq_eq h2
      cases h
      exact h0
    · exact sfind_ok hr h
theorem args1_dec {D : Den} {τ : Nat → Value} {x : Operand} {v v' : Value} (h : args1 τ x = some v) (hd : DenR D v v') : args1 (dec D τ) x = some v' := by
  cases x with
  | tmp t =>
    simp only [args1, Option.some.injEq] at h ⊢
    unfold dec
    rw [h]
    cases hd with
    | int k n => rfl
    | bool b => rfl
    | str s => rfl
    | code g =>
      show (D _).getD _ = _
      rw [g]
      rfl
    | codeS g =>
      show (D _).getD _ = _
      rw [g]
      rfl
  | const c =>
    simp only [args1] at h ⊢
    split at h
    · rename_i hc
      cases h
      cases hd with
      | int k n => rfl
      | bool b => rfl
      | str s => rfl
      | code h => cases hc
      | codeS h => cases hc
    · cases h
  | func f => simp only [args1, Option.some.injEq] at h; subst h; cases hd
  | global g => cases h
theorem evL_dec {D : Den} {τ : Nat → Value} : ∀ {xs : List Operand} {l l' : List Value}, evL τ xs = some l → DenRs D l l' → evL (dec D τ) xs = some l'
  | [], l, l', h, hd => by
    simp only [evL, Option.some.injEq] at h
    subst h
    cases hd
    rfl
  | x :: xs, l, l', h, hd => by
    simp only [evL] at h
    split at h
    · rename_i v r h1 h2
      cases h
      cases hd with
      | cons d ds => simp only [evL, args1_dec h1 d, evL_dec h2 ds]
    · cases h
theorem strT_spec {E : Env} {t : Nat} (h : strT E t = true) : ∃ i, E.ty t = some i ∧ i.d = .string := by
  unfold strT at h
  split at h
  · rename_i i hi
    split at h
    · rename_i hd
      exact ⟨i, hi, hd⟩
    · cases h
  · cases h
theorem sop_row {E : Env} {D : Den} {τ : Nat → Value} {o : Oper} {k : Nat} {op : BinOp} {t : Nat} {l : List Value} {v : Value} (hov : ovals τ o = some (k, op, t, l)) (hst : (Nat.beq k 2 || Nat.beq k 4 || Nat.beq k 5 || strT E t) = true) (hs : SOk D (k, op, l, v)) :
    ∃ v', DenR D v v' ∧ ∀ n σ, (aop0 E (dec D τ) o).run n σ = some (v', n, []) := by
  unfold ovals at hov
  split at hov
  · rename_i t' x y ho
    split at hov
    · rename_i a b h1 h2
      cases hov
      cases hs with
      | index h g1 g2 g3 =>
        obtain ⟨i, hi, hd⟩ := strT_spec (by simpa using hst)
        refine ⟨_, g3, fun n σ => ?_⟩
        unfold aop0
        simp only [ho, ev, args1_dec h1 g1, args1_dec h2 g2, hi, hd]
        rw [dif_pos h]
        rfl
    · cases hov
  · rename_i t' x lo hi ho
    split at hov
    · rename_i a b c h1 h2 h3
      cases hov
      cases hs with
      | cut g1 g2 g3 g4 g5 g6 =>
        obtain ⟨i, hi', hd⟩ := strT_spec (by simpa using hst)
        refine ⟨_, g6, fun n σ => ?_⟩
        unfold aop0
        simp [ho, ev, evO, args1_dec h1 g1, args1_dec h2 g2, args1_dec h3 g3, aslice2, ghostOk, aslice, hi', hd, bound, g4, g5, T.run]
    · cases hov
  · rename_i t' x hi ho
    split at hov
    · rename_i a c h1 h3
      cases hov
      cases hs with
      | cutTo g1 g3 g5 g6 =>
        obtain ⟨i, hi', hd⟩ := strT_spec (by simpa using hst)
        refine ⟨_, g6, fun n σ => ?_⟩
        unfold aop0
        simp [ho, ev, evO, args1_dec h1 g1, args1_dec h3 g3, aslice2, ghostOk, aslice, hi', hd, bound, g5, T.run]
    · cases hov
  · rename_i t' x lo ho
    split at hov
    · rename_i a c h1 h3
      cases hov
      cases hs with
      | cutFrom g1 g3 g5 g6 =>
        obtain ⟨i, hi', hd⟩ := strT_spec (by simpa using hst)
        refine ⟨_, g6, fun n σ => ?_⟩
        unfold aop0
        simp [ho, ev, evO, args1_dec h1 g1, args1_dec h3 g3, aslice2, ghostOk, aslice, hi', hd, bound, g5, T.run]
    · cases hov
  · rename_i op' t' x y u ho
    split at hov
    · rename_i a b h1 h2
      cases hov
      cases hs with
      | @bin _ _ _ _ _ s1 s2 g1 g2 g3 g4 =>
        refine ⟨_, g3, fun n σ => ?_⟩
        unfold aop0
        simp only [ho, ev, args1_dec h1 g1, args1_dec h2 g2]
        have e1 : guardOk E op t x y (.string s1) (.string s2) = true := by cases op <;> rfl
        rw [e1, if_pos rfl]
        unfold abin
        rw [if_neg (by simp [coded])]
        unfold abin0
        cases op <;> simp only [g4, ofSem, T.run]
    · cases hov
  · rename_i c ho
    split at hov
    · rename_i t' r l' hc ht hl
      cases hov
      cases hs with
      | len g1 g2 =>
        obtain ⟨i, hi', hd⟩ := strT_spec (by simpa using hst)
        refine ⟨_, g2, fun n σ => ?_⟩
        unfold aop0
        simp only [ho, hc, evL_dec hl (.cons g1 .nil), ht, abuiltin, hi', hd, T.run]
    · rename_i l' hc hl
      cases hov
      cases hs with
      | min g1 g2 g3 =>
        refine ⟨_, g2, fun n σ => ?_⟩
        unfold aop0
        simp only [ho, hc, evL_dec hl g1, abuiltin, g3, orFail, T.run]
    · rename_i l' hc hl
      cases hov
      cases hs with
      | max g1 g2 g3 =>
        refine ⟨_, g2, fun n σ => ?_⟩
        unfold aop0
        simp only [ho, hc, evL_dec hl g1, abuiltin, g3, orFail, T.run]
    · cases hov
  · cases hov
def BOk (D : Den) (r : BRow) : Prop := ∃ k n k' m v', DenR D r.2.1 (.int k n) ∧ DenR D r.2.2.1 (.int k' m) ∧ DenR D r.2.2.2 v' ∧ ∀ t, binOp r.1 t (.int k n) (.int k' m) = .pure v'
def UOk (D : Den) (r : URow) : Prop := ∃ k n v', DenR D r.2.1 (.int k n) ∧ DenR D r.2.2 v' ∧ Op.unary r.1 (.int k n) = .pure v'
def COk (D : Den) (r : CRow) : Prop := ∃ k' n, DenR D r.2.1 (.int k' n) ∧ DenR D r.2.2 (.int r.1 (r.1.wrap n))
def Env.sym (E : Env) (D : Den) (bs : List BRow) (us : List URow) (cs : List CRow) (ss : List SRow := []) : Env := { ty := E.ty, fn := E.fn, den := D, bin := bfind bs, un := ufind us, cvt := cfind cs, sfind := sfindL ss }
theorem bfind_ok {D : Den} {op : BinOp} {x y v : Value} : ∀ {bs : List BRow}, allP (BOk D) bs → bfind bs op x y = some v → BOk D (op, x, y, v)
  | [], _, h => by cases h
  | (o, a, b, u) :: r, ⟨h0, hr⟩, h => by
    unfold bfind at h
    split at h
    · rename_i hk
      simp only [Bool.and_eq_true, decide_eq_true_eq] at hk
      obtain ⟨⟨rfl, h1⟩, h2⟩ := hk
      cases keyEq_eq h1
      cases keyEq_eq h2
      cases h
      exact h0
    · exact bfind_ok hr h
theorem ufind_ok {D : Den} {op : UnOp} {x v : Value} : ∀ {us : List URow}, allP (UOk D) us → ufind us op x = some v → UOk D (op, x, v)
  | [], _, h => by cases h
  | (o, a, u) :: r, ⟨h0, hr⟩, h => by
    unfold ufind at h
    split at h
    · rename_i hk
      simp only [Bool.and_eq_true, decide_eq_true_eq] at hk
      obtain ⟨rfl, h1⟩ := hk
      cases keyEq_eq h1
      cases h
      exact h0
    · exact ufind_ok hr h
theorem cfind_ok {D : Den} {k : IntKind} {x v : Value} : ∀ {cs : List CRow}, allP (COk D) cs → cfind cs k x = some v → COk D (k, x, v)
  | [], _, h => by cases h
  | (o, a, u) :: r, ⟨h0, hr⟩, h => by
    unfold cfind at h
    split at h
    · rename_i hk
      simp only [Bool.and_eq_true, decide_eq_true_eq] at hk
      obtain ⟨rfl, h1⟩ := hk
      cases keyEq_eq h1
      cases h
      exact h0
    · exact cfind_ok hr h
theorem sym_ok {P : Program} {E : Env} (hE : EnvOk P E) {D : Den} {bs : List BRow} {us : List URow} {cs : List CRow} {ss : List SRow} (hb : allP (BOk D) bs) (hu : allP (UOk D) us) (hc : allP (COk D) cs) (hs : allP (SOk D) ss) : EnvOk P (E.sym D bs us cs ss) where
  ty := hE.ty
  zero := hE.zero
  eqok := hE.eqok
  fn := hE.fn
  mixed := hE.mixed
  bin op x y v h := by
    obtain ⟨k, n, k', m, v', d1, d2, d3, d4⟩ := bfind_ok hb h
    exact ⟨_, _, v', d1, d2, d3, d4⟩
  eqb x y b h := by
    obtain ⟨k, n, k', m, v', d1, d2, d3, d4⟩ := bfind_ok hb h
    cases d3
    have h0 := d4 0
    unfold binOp at h0
    simp only at h0
    split at h0
    · cases h0
    · rename_i hk
      have hk' := Decidable.not_not.1 hk
      subst hk'
      refine ⟨k, n, m, d1, d2, ?_⟩
      unfold Op.intCmp at h0
      injection h0 with h1
      injection h1
  sop τ o v h := by
    unfold sop at h
    split at h
    · rename_i k op t l hov
      split at h
      · rename_i hk
        simp only [Bool.and_eq_true] at hk
        exact sop_row hov hk.2 (sfind_ok hs h)
      · cases h
    · cases h
  un op x v h := by
    obtain ⟨k, n, v', d1, d2, d3⟩ := ufind_ok hu h
    exact ⟨_, v', d1, d2, d3⟩
  cvt k x v h := by
    obtain ⟨k', n, d1, d2⟩ := cfind_ok hc h
    exact ⟨k', n, _, d1, d2, rfl⟩

def noDen : Den := fun _ => none
def noIds : Inj := fun _ => none
def noStore : Store := fun _ => none
theorem rel_none (W : World) : Rel noDen W.heap.size W noIds noStore W := { below := Below.refl _ _, size := Nat.le_refl _, obj := fun i o h => (by cases h), sep := fun i j o o' p p' h => (by cases h), den := fun c v h => (by cases h) }
end Go.Proofs.YtgajcmanompmcaaV
