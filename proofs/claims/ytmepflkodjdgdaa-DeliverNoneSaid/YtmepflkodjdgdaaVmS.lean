/- The abstract machine: its tables, and a law's call. -/
import Derived.Test.YtmepflkodjdgdaaVmR
set_option linter.unusedVariables false
set_option linter.unusedSimpArgs false
namespace Go.Proofs.YtmepflkodjdgdaaV
open Go.RowKit

inductive Tr (α : Type) where
  | leaf
  | node (k : Nat) (v : α) (l r : Tr α)
def Tr.find {α : Type} : Tr α → Nat → Option α
  | .leaf, _ => none
  | .node k v l r, t => match Nat.beq t k with
    | true => some v
    | false => match Nat.blt t k with
      | true => l.find t
      | false => r.find t
def Tr.All {α : Type} (P : Nat → α → Prop) : Tr α → Prop
  | .leaf => True
  | .node k v l r => P k v ∧ l.All P ∧ r.All P
theorem Tr.find_all {α : Type} {P : Nat → α → Prop} : ∀ {T : Tr α}, T.All P → ∀ {t : Nat} {v : α}, T.find t = some v → P t v
  | .leaf, _, t, v, h => by cases h
  | .node k x l r, hA, t, v, h => by
    unfold Tr.find at h
    split at h
    · rename_i hk
      cases h
      have := Nat.eq_of_beq_eq_true hk
      subst this
      exact hA.1
    · split at h
      · exact Tr.find_all hA.2.1 h
      · exact Tr.find_all hA.2.2 h

def zOk (z : Value) (size : Nat) : Bool := match z with
  | .agg cs => cs.toList.all cl0 && cs.toList.length == size
  | z => cl0 z && size == 1
theorem cl0_one {v : Value} (h : cl0 v = true) : oneB v = true := by
  unfold cl0 at h
  split at h <;> first | rfl | cases h
theorem VRs_cl0 {ι : Inj} : ∀ {l : List Value}, l.all cl0 = true → VRs ι l l
  | [], _ => .nil
  | v :: l, h => by
    simp only [List.all_cons, Bool.and_eq_true] at h
    exact .cons (cl0_VR h.1 ι) (VRs_cl0 h.2)
theorem zOk_spec {z : Value} {size : Nat} (h : zOk z size = true) : (∀ ι, VR ι z z) ∧ (cellsL z).length = size ∧ (cellsL z).all oneB = true := by
  have all1 : ∀ {l : List Value}, l.all cl0 = true → l.all oneB = true := fun h => by
    rw [List.all_eq_true] at h ⊢
    exact fun x hx => cl0_one (h x hx)
  cases z with
  | agg cs =>
    simp only [zOk, Bool.and_eq_true, beq_iff_eq] at h
    obtain ⟨l⟩ := cs
    exact ⟨fun ι => .agg (VRs_cl0 h.1), h.2, all1 h.1⟩
  | _ =>
    simp only [zOk, Bool.and_eq_true, beq_iff_eq] at h
    exact ⟨fun ι => cl0_VR h.1 ι, by rw [h.2]; rfl, by simp [cellsL, Value.cells, cl0_one h.1]⟩

structure TyOk (P : Program) (t : Nat) (i : TI) : Prop where
  und : P.underlying t = some i.d
  inf : ∃ inf, P.info? t = some inf ∧ inf.zero = some i.zero ∧ inf.size = i.size ∧ inf.bytes = i.bytes
  z : zOk i.zero i.size = true
  eq : i.eqok = true → P.eqGuardType P.depth t = false ∧ P.stoodInHeld t = false
theorem TyOk.mk' {P : Program} {t : Nat} {i : TI} (h1 : P.underlying t = some i.d) (h2 : (P.info? t).map (fun x => (x.zero, x.size, x.bytes)) = some (some i.zero, i.size, i.bytes)) (h3 : zOk i.zero i.size = true) (h4 : i.eqok = false ∨ P.eqGuardType P.depth t = false ∧ P.stoodInHeld t = false) : TyOk P t i := by
  refine ⟨h1, ?_, h3, fun h => h4.resolve_left (by simp [h])⟩
  cases hi : P.info? t with
  | none => rw [hi] at h2; cases h2
  | some inf =>
    rw [hi] at h2
    simp at h2
    exact ⟨inf, rfl, h2.1, h2.2.1, h2.2.2⟩
def FnOk (P : Program) (f : Nat) (g : Func) : Prop := P.funcs[f]? = some g ∧ (g.name == "runtime.NumGoroutine") = false
def mkEnv (T : Tr TI) (F : Tr Func) : Env := ⟨T.find, F.find⟩
theorem mkEnv_ok {P : Program} {T : Tr TI} {F : Tr Func} (hT : T.All (TyOk P)) (hF : F.All (FnOk P)) (hm : P.follows .mixedOrders = true) : EnvOk P (mkEnv T F) where
  ty t i h := ⟨(Tr.find_all hT h).und, (Tr.find_all hT h).inf⟩
  zero t i h := zOk_spec (Tr.find_all hT h).z
  eqok t i h := (Tr.find_all hT h).eq
  fn f g h := Tr.find_all hF h
  mixed := hm

def noIds : Inj := fun _ => none
def noStore : Store := fun _ => none
theorem rel_none (W : World) : Rel W.heap.size W noIds noStore W := { below := Below.refl _ _, size := Nat.le_refl _, obj := fun i o h => (by cases h), sep := fun i j o o' p p' h => (by cases h) }
/-- A law over values that lead nowhere. -/
theorem law_top {P : Program} {E : Env} (hE : EnvOk P E) {k f n' : Nat} {args args' : List Value} {d : Delta} (h : CallK E k f args 0 noStore (.bool true) n' d) (ha : VRs noIds args args') (W : World) : Calls P f ⟨args'⟩ W fun e w' => e = .returned (.bool true) ∧ Below W.heap.size W w' := by
  obtain ⟨_, _, h2⟩ := callK_ok hE k _ _ _ _ _ _ _ h
  refine h2 W.heap.size W noStore noIds W args' _ (Sub.refl _) (rel_none W) ha (fun i _ _ => rfl) fun κ w' v' hend hv => ?_
  cases hv
  exact ⟨rfl, hend.2.2.below⟩
theorem law_run {P : Program} {E : Env} (hE : EnvOk P E) {k F f : Nat} {args args' : List Value} (h : (xcall E F k f args 0 noStore).map (·.1) = some (.bool true)) (ha : VRs noIds args args') (W : World) : Calls P f ⟨args'⟩ W fun e w' => e = .returned (.bool true) ∧ Below W.heap.size W w' := by
  cases hx : xcall E F k f args 0 noStore with
  | none => rw [hx] at h; cases h
  | some r =>
    obtain ⟨v, n', d⟩ := r
    rw [hx] at h
    simp at h
    subst h
    exact law_top hE (xcall_sound k hx) ha W
end Go.Proofs.YtmepflkodjdgdaaV
