/- The abstract machine: its tables, and a law's call. -/
import Derived.Test.YtmepflkodjdgdaaVmR
set_option linter.unusedVariables false
set_option linter.unusedSimpArgs false
namespace Go.Proofs.YtmepflkodjdgdaaV
open Go.RowKit

inductive Tr (α : Type) where
  | leaf
  | node (k : Nat) (v : α) (l r : Tr α)
def Tr.find {α : Type} : Tr α → Nat → Option α
  | .leaf, _ => none
  | .node k v l r, t => match Nat.beq t k with
    | true => some v
    | false => match Nat.blt t k with
      | true => l.find t
      | false => r.find t
def Tr.All {α : Type} (P : Nat → α → Prop) : Tr α → Prop
  | .leaf => True
  | .node k v l r => P k v ∧ l.All P ∧ r.All P
theorem Tr.find_all {α : Type} {P : Nat → α → Prop} : ∀ {T : Tr α}, T.All P → ∀ {t : Nat} {v : α}, T.find t = some v → P t v
  | .leaf, _, t, v, h => by cases h
  | .node k x l r, hA, t, v, h => by
    unfold Tr.find at h
    split at h
    · rename_i hk
      cases h
      have := Nat.eq_of_beq_eq_true hk
      subst this
      exact hA.1
    · split at h
      · exact Tr.find_all hA.2.1 h
      · exact Tr.find_all hA.2.2 h

def zOk (z : Value) (size : Nat) : Bool := match z with
  | .agg cs => cs.toList.all cl0 && cs.toList.length == size
  | z => cl0 z && size == 1
theorem cl0_one {v : Value} (h : cl0 v = true) : oneB v = true := by
  unfold cl0 at h
  split at h <;> first | rfl | cases h
theorem VRs_cl0 {ι : Inj} : ∀ {l : List Value}, l.all cl0 = true → VRs ι l l
  | [], _ => .nil
  | v :: l, h => by
    simp only [List.all_cons, Bool.and_eq_true] at h
    exact .cons (cl0_VR h.1 ι) (VRs_cl0 h.2)
theorem zOk_spec {z : Value} {size : Nat} (h : zOk z size = true) : (∀ ι, VR ι z z) ∧ (cellsL z).length = size ∧ (cellsL z).all oneB = true := by
  have all1 : ∀ {l : List Value}, l.all cl0 = true → l.all oneB = true := fun h => by
    rw [List.all_eq_true] at h ⊢
    exact fun x hx => cl0_one (h x hx)
  cases z with
  | agg cs =>
    simp only [zOk, Bool.and_eq_true, beq_iff_eq] at h
    obtain ⟨l⟩ := cs
    exact ⟨fun ι => .agg (VRs_cl0 h.1), h.2, all1 h.1⟩
  | _ =>
    simp only [zOk, Bool.and_eq_true, beq_iff_eq] at h
    exact ⟨fun ι => cl0_VR h.1 ι, by rw [h.2]; rfl, by simp [cellsL, Value.cells, cl0_one h.1]⟩

structure TyOk (P : Program) (t : Nat) (i : TI) : Prop where
  und : P.underlying t = some i.d
  inf : ∃ inf, P.info? t = some inf ∧ inf.zero = some i.zero ∧ inf.size = i.size ∧ inf.bytes = i.bytes
  z : zOk i.zero i.size = true
  eq : i.eqok = true → P.eqGuardType P.depth t = false ∧ P.stoodInHeld t = false
theorem TyOk.mk' {P : Program} {t : Nat} {i : TI} (h1 : P.underlying t = some i.d) (h2 : (P.info? t).map (fun x => (x.zero, x.size, x.bytes)) = some (some i.zero, i.size, i.bytes)) (h3 : zOk i.zero i.size = true) (h4 : i.eqok = false ∨ P.eqGuardType P.depth t = false ∧ P.stoodInHeld t = false) : TyOk P t i := by
  refine ⟨h1, ?_, h3, fun h => h4.resolve_left (by simp [h])⟩
  cases hi : P.info? t with
  | none => rw [hi] at h2; cases h2
  | some inf =>
    rw [hi] at h2
    simp at h2
    exact ⟨inf, rfl, h2.1, h2.2.1, h2.2.2⟩
def FnOk (P : Program) (f : Nat) (g : Func) : Prop := P.funcs[f]? = some g ∧ (g.name == "runtime.NumGoroutine") = false
def mkEnv (T : Tr TI) (F : Tr Func) : Env := { ty := T.find, fn := F.find }
theorem mkEnv_ok {P : Program} {T : Tr TI} {F : Tr Func} (hT : T.All (TyOk P)) (hF : F.All (FnOk P)) (hm : P.follows .mixedOrders = true) : EnvOk P (mkEnv T F) where
  ty t i h := ⟨(Tr.find_all hT h).und, (Tr.find_all hT h).inf⟩
  zero t i h := zOk_spec (Tr.find_all hT h).z
  eqok t i h := (Tr.find_all hT h).eq
  fn f g h := Tr.find_all hF h
  mixed := hm
  bin _ _ _ _ h := by cases h
  eqb _ _ _ h := by cases h
  un _ _ _ h := by cases h
  cvt _ _ _ h := by cases h

/-! ### Numbers that are not known: codes, and a table of what the operations make of them -/
abbrev BRow := BinOp × Value × Value × Value
abbrev URow := UnOp × Value × Value
abbrev CRow := IntKind × Value × Value
def keyEq : Value → Value → Bool
  | .chan (some a), .chan (some b) => Nat.beq a b
  | .int k n, .int k' m => decide (k = k') && decide (n = m)
  | _, _ => false
theorem keyEq_eq {x y : Value} (h : keyEq x y = true) : x = y := by
  unfold keyEq at h
  split at h
  · rw [Nat.eq_of_beq_eq_true h]
  · simp only [Bool.and_eq_true, decide_eq_true_eq] at h
    rw [h.1, h.2]
  · cases h
def bfind : List BRow → BinOp → Value → Value → Option Value
  | [], _, _, _ => none
  | (o, a, b, v) :: r, op, x, y => if (decide (o = op) && keyEq a x && keyEq b y) = true then some v else bfind r op x y
def ufind : List URow → UnOp → Value → Option Value
  | [], _, _ => none
  | (o, a, v) :: r, op, x => if (decide (o = op) && keyEq a x) = true then some v else ufind r op x
def cfind : List CRow → IntKind → Value → Option Value
  | [], _, _ => none
  | (o, a, v) :: r, k, x => if (decide (o = k) && keyEq a x) = true then some v else cfind r k x
def BOk (D : Den) (r : BRow) : Prop := ∃ k n k' m v', DenR D r.2.1 (.int k n) ∧ DenR D r.2.2.1 (.int k' m) ∧ DenR D r.2.2.2 v' ∧ ∀ t, binOp r.1 t (.int k n) (.int k' m) = .pure v'
def UOk (D : Den) (r : URow) : Prop := ∃ k n v', DenR D r.2.1 (.int k n) ∧ DenR D r.2.2 v' ∧ Op.unary r.1 (.int k n) = .pure v'
def COk (D : Den) (r : CRow) : Prop := ∃ k' n, DenR D r.2.1 (.int k' n) ∧ DenR D r.2.2 (.int r.1 (r.1.wrap n))
def allP {α : Type} (p : α → Prop) : List α → Prop
  | [] => True
  | x :: r => p x ∧ allP p r
def Env.sym (E : Env) (D : Den) (bs : List BRow) (us : List URow) (cs : List CRow) : Env := { ty := E.ty, fn := E.fn, den := D, bin := bfind bs, un := ufind us, cvt := cfind cs }
theorem bfind_ok {D : Den} {op : BinOp} {x y v : Value} : ∀ {bs : List BRow}, allP (BOk D) bs → bfind bs op x y = some v → BOk D (op, x, y, v)
  | [], _, h => by cases h
  | (o, a, b, u) :: r, ⟨h0, hr⟩, h => by
    unfold bfind at h
    split at h
    · rename_i hk
      simp only [Bool.and_eq_true, decide_eq_true_eq] at hk
      obtain ⟨⟨rfl, h1⟩, h2⟩ := hk
      cases keyEq_eq h1
      cases keyEq_eq h2
      cases h
      exact h0
    · exact bfind_ok hr h
theorem ufind_ok {D : Den} {op : UnOp} {x v : Value} : ∀ {us : List URow}, allP (UOk D) us → ufind us op x = some v → UOk D (op, x, v)
  | [], _, h => by cases h
  | (o, a, u) :: r, ⟨h0, hr⟩, h => by
    unfold ufind at h
    split at h
    · rename_i hk
      simp only [Bool.and_eq_true, decide_eq_true_eq] at hk
      obtain ⟨rfl, h1⟩ := hk
      cases keyEq_eq h1
      cases h
      exact h0
    · exact ufind_ok hr h
theorem cfind_ok {D : Den} {k : IntKind} {x v : Value} : ∀ {cs : List CRow}, allP (COk D) cs → cfind cs k x = some v → COk D (k, x, v)
  | [], _, h => by cases h
  | (o, a, u) :: r, ⟨h0, hr⟩, h => by
    unfold cfind at h
    split at h
    · rename_i hk
      simp only [Bool.and_eq_true, decide_eq_true_eq] at hk
      obtain ⟨rfl, h1⟩ := hk
      cases keyEq_eq h1
      cases h
      exact h0
    · exact cfind_ok hr h
theorem sym_ok {P : Program} {E : Env} (hE : EnvOk P E) {D : Den} {bs : List BRow} {us : List URow} {cs : List CRow} (hb : allP (BOk D) bs) (hu : allP (UOk D) us) (hc : allP (COk D) cs) : EnvOk P (E.sym D bs us cs) where
  ty := hE.ty
  zero := hE.zero
  eqok := hE.eqok
  fn := hE.fn
  mixed := hE.mixed
  bin op x y v h := by
    obtain ⟨k, n, k', m, v', d1, d2, d3, d4⟩ := bfind_ok hb h
    exact ⟨_, _, v', d1, d2, d3, d4⟩
  eqb x y b h := by
    obtain ⟨k, n, k', m, v', d1, d2, d3, d4⟩ := bfind_ok hb h
    cases d3
    have h0 := d4 0
    unfold binOp at h0
    simp only at h0
    split at h0
    · cases h0
    · rename_i hk
      have hk' := Decidable.not_not.1 hk
      subst hk'
      refine ⟨k, n, m, d1, d2, ?_⟩
      unfold Op.intCmp at h0
      injection h0 with h1
      injection h1
  un op x v h := by
    obtain ⟨k, n, v', d1, d2, d3⟩ := ufind_ok hu h
    exact ⟨_, v', d1, d2, d3⟩
  cvt k x v h := by
    obtain ⟨k', n, d1, d2⟩ := cfind_ok hc h
    exact ⟨k', n, _, d1, d2, rfl⟩

def noDen : Den := fun _ => none
def noIds : Inj := fun _ => none
def noStore : Store := fun _ => none
theorem rel_none (W : World) : Rel noDen W.heap.size W noIds noStore W := { below := Below.refl _ _, size := Nat.le_refl _, obj := fun i o h => (by cases h), sep := fun i j o o' p p' h => (by cases h), den := fun c v h => (by cases h) }
end Go.Proofs.YtmepflkodjdgdaaV
