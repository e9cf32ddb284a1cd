/- The abstract machine: its operations are the model's. -/
import Derived.Test.YtgajcmanompmcaaVmB
import Derived.Laws.Cells
import Derived.Laws.CopyRow
set_option linter.unusedVariables false
set_option linter.unusedSimpArgs false
namespace Go.Proofs.YtgajcmanompmcaaV
open Go.RowKit

/-- What a number, a truth or a code stands for. -/
inductive DenR (D : Den) : Value → Value → Prop
  | int (k : IntKind) (n : Int) : DenR D (.int k n) (.int k n)
  | bool (b : Bool) : DenR D (.bool b) (.bool b)
  | str (s : ByteArray) : DenR D (.string s) (.string s)
  | code {c : Nat} {k : IntKind} {n : Int} (h : D c = some (.int k n)) : DenR D (.chan (some c)) (.int k n)
  | codeS {c : Nat} {s : ByteArray} (h : D c = some (.string s)) : DenR D (.chan (some c)) (.string s)
def DenOk (D : Den) (ι : Inj) : Prop := ∀ c v, D c = some v → ∃ p, ι c = some p ∧ p.val = some v
theorem DenR.VR {D : Den} {ι : Inj} (hD : DenOk D ι) {v v' : Value} (h : DenR D v v') : Go.Proofs.YtgajcmanompmcaaV.VR ι v v' := by
  cases h with
  | int k n => exact .int k n
  | bool b => exact .bool b
  | str s => exact .str s
  | code h =>
    obtain ⟨p, h1, h2⟩ := hD _ _ h
    exact .sym h1 h2
  | codeS h =>
    obtain ⟨p, h1, h2⟩ := hD _ _ h
    exact .symS h1 h2
theorem DenR.same {D : Den} {ι : Inj} (hD : DenOk D ι) {v v' u : Value} (h : DenR D v v') (hu : Go.Proofs.YtgajcmanompmcaaV.VR ι v u) : u = v' := by
  cases h with
  | int k n => cases hu; rfl
  | bool b => cases hu; rfl
  | str s => cases hu; rfl
  | code h =>
    obtain ⟨p, h1, h2⟩ := hD _ _ h
    cases hu with
    | sym g1 g2 => rw [h1] at g1; cases g1; rw [h2] at g2; cases g2; rfl
    | symS g1 g2 => rw [h1] at g1; cases g1; rw [h2] at g2; cases g2
  | codeS h =>
    obtain ⟨p, h1, h2⟩ := hD _ _ h
    cases hu with
    | sym g1 g2 => rw [h1] at g1; cases g1; rw [h2] at g2; cases g2
    | symS g1 g2 => rw [h1] at g1; cases g1; rw [h2] at g2; cases g2; rfl
structure EnvOk (P : Program) (E : Env) : Prop where
  ty : ∀ t i, E.ty t = some i → P.underlying t = some i.d ∧ ∃ inf, P.info? t = some inf ∧ inf.zero = some i.zero ∧ inf.size = i.size ∧ inf.bytes = i.bytes
  zero : ∀ t i, E.ty t = some i → (∀ ι, VR ι i.zero i.zero) ∧ (cellsL i.zero).length = i.size ∧ (cellsL i.zero).all oneB = true
  eqok : ∀ t i, E.ty t = some i → i.eqok = true → P.eqGuardType P.depth t = false ∧ P.stoodInHeld t = false
  fn : ∀ f g, E.fn f = some g → P.funcs[f]? = some g ∧ (g.name == "runtime.NumGoroutine") = false
  mixed : P.follows .mixedOrders = true
  bin : ∀ op x y v, E.bin op x y = some v → ∃ x' y' v', DenR E.den x x' ∧ DenR E.den y y' ∧ DenR E.den v v' ∧ ∀ t, binOp op t x' y' = .pure v'
  eqb : ∀ x y b, E.bin .eql x y = some (.bool b) → ∃ k n m, DenR E.den x (.int k n) ∧ DenR E.den y (.int k m) ∧ (n == m) = b
  un : ∀ op x v, E.un op x = some v → ∃ x' v', DenR E.den x x' ∧ DenR E.den v v' ∧ Op.unary op x' = .pure v'
  sop : ∀ τ o v, sop E τ o = some v → ∃ v', DenR E.den v v' ∧ ∀ n σ, (aop0 E (dec E.den τ) o).run n σ = some (v', n, [])
  cvt : ∀ k x v, E.cvt k x = some v → ∃ k' n v', DenR E.den x (.int k' n) ∧ DenR E.den v v' ∧ v' = .int k (k.wrap n)

/-- What an operation of the model comes to, told by the abstract one. -/
def Good (D : Den) (N : Nat) (w0 : World) (ι : Inj) (σ : Store) (n n' : Nat) (v : Value) (d : Delta) (r : Result Next) : Prop :=
  ∃ nx w' v' κ, r = .ok nx w' ∧ (nx = .value v' ∨ nx = .skip ∧ v' = undef) ∧ ι.le κ ∧ (∀ i, κ i ≠ ι i → n ≤ i ∧ i < n') ∧ Rel D N w0 κ (app d σ) w' ∧ VR κ v v'

theorem undef_VR (ι : Inj) : VR ι undef undef := .tuple .nil
theorem good_value {E : Env} {N : Nat} {w0 : World} {ι : Inj} {σ : Store} {n : Nat} {v v' : Value} {w : World} (hR : Rel E.den N w0 ι σ w) (hv : VR ι v v') : Good E.den N w0 ι σ n n v [] (.ok (.value v') w) :=
  ⟨_, _, v', ι, rfl, .inl rfl, Inj.le_refl _, fun i h => absurd rfl h, hR, hv⟩
theorem cl0_VR {v : Value} (h : cl0 v = true) (ι : Inj) : VR ι v v := by
  unfold cl0 at h
  split at h <;> first | constructor | cases h
theorem ret_run {v0 v : Value} {d0 d : Delta} {n n' : Nat} {σ : Store} (h : (T.ret v0 d0).run n σ = some (v, n', d)) : v = v0 ∧ d = d0 ∧ n' = n := by
  simp [T.run] at h
  exact ⟨h.1.symm, h.2.2.symm, h.2.1.symm⟩
theorem fail_run {r : Value × Nat × Delta} {n : Nat} {σ : Store} (h : T.fail.run n σ = some r) : False := by simp [T.run] at h

section
variable {P : Program} {E : Env} {τ : Nat → Value} {a : Act} {ι : Inj}
def TR (ι : Inj) (τ : Nat → Value) (a : Act) : Prop := ∀ t, VR ι (τ t) (a.tmps.getD t undef)
theorem args1_sound (hτ : TR ι τ a) {x : Operand} {v : Value} (h : args1 τ x = some v) : VR ι v (a.eval x) := by
  cases x with
  | tmp t => simp [args1] at h; subst h; exact hτ t
  | const c =>
    simp only [args1] at h
    split at h
    · cases h; exact cl0_VR ‹_› ι
    · cases h
  | func f => simp [args1] at h; subst h; exact .func .nil .nil
  | global g => simp [args1] at h
theorem ev_run (hτ : TR ι τ a) {x : Operand} {k : Value → T} {n : Nat} {σ : Store} {r : Value × Nat × Delta} (h : (ev τ x k).run n σ = some r) :
    ∃ v, VR ι v (a.eval x) ∧ (k v).run n σ = some r := by
  unfold ev at h
  cases hx : args1 τ x with
  | none => rw [hx] at h; exact (fail_run h).elim
  | some v => rw [hx] at h; exact ⟨v, args1_sound hτ hx, h⟩
theorem evO_run (hτ : TR ι τ a) {x : Option Operand} {k : Option Value → T} {n : Nat} {σ : Store} {r : Value × Nat × Delta} (h : (evO τ x k).run n σ = some r) :
    (x = none ∧ (k none).run n σ = some r) ∨ ∃ y v, x = some y ∧ VR ι v (a.eval y) ∧ (k (some v)).run n σ = some r := by
  cases x with
  | none => exact .inl ⟨rfl, h⟩
  | some y =>
    obtain ⟨v, hv, hk⟩ := ev_run hτ (x := y) (k := fun v => k (some v)) h
    exact .inr ⟨y, v, rfl, hv, hk⟩
theorem evL_sound (hτ : TR ι τ a) : ∀ {l : List Operand} {vs : List Value}, evL τ l = some vs → VRs ι vs (l.map a.eval)
  | [], vs, h => by simp [evL] at h; subst h; exact .nil
  | x :: l, vs, h => by
    simp only [evL] at h
    cases hx : args1 τ x with
    | none => simp [hx] at h
    | some v =>
      cases hl : evL τ l with
      | none => simp [hx, hl] at h
      | some vl => simp [hx, hl] at h; subst h; exact .cons (args1_sound hτ hx) (evL_sound hτ hl)
inductive PR (ι : Inj) : List (Nat × Value) → List (Nat × Value) → Prop
  | nil : PR ι [] []
  | cons {i : Nat} {v v' : Value} {l l' : List (Nat × Value)} (h : VR ι v v') (hs : PR ι l l') : PR ι ((i, v) :: l) ((i, v') :: l')
theorem evP_sound (hτ : TR ι τ a) : ∀ {l : List (Nat × Operand)} {vs : List (Nat × Value)}, evP τ l = some vs → PR ι vs (l.map fun (i, x) => (i, a.eval x))
  | [], vs, h => by simp [evP] at h; subst h; exact .nil
  | (i, x) :: l, vs, h => by
    simp only [evP] at h
    cases hx : args1 τ x with
    | none => simp [hx] at h
    | some v =>
      cases hl : evP τ l with
      | none => simp [hx, hl] at h
      | some vl => simp [hx, hl] at h; subst h; exact .cons (args1_sound hτ hx) (evP_sound hτ hl)
end

section
variable {P : Program} {E : Env} (hE : EnvOk P E) (w : World)
include hE
theorem und_run {t : Nat} {i : TI} (h : E.ty t = some i) : (underlying t).run P w = .ok i.d w := run_underlying (hE.ty t i h).1 w
theorem size_run {t : Nat} {i : TI} (h : E.ty t = some i) : (sizeOf t).run P w = .ok i.size w := by
  obtain ⟨_, inf, h1, _, h3, _⟩ := hE.ty t i h
  simp [sizeOf, typeInfo, h1, h3]
theorem zero_run {t : Nat} {i : TI} (h : E.ty t = some i) : (zeroValue t).run P w = .ok i.zero w := by
  obtain ⟨_, inf, h1, h2, _⟩ := hE.ty t i h
  simp [zeroValue, typeInfo, h1, h2]
theorem bytes_run {t : Nat} {i : TI} (h : E.ty t = some i) : ∃ inf, (typeInfo t).run P w = .ok inf w ∧ inf.bytes = i.bytes := by
  obtain ⟨_, inf, h1, _, _, h4⟩ := hE.ty t i h
  exact ⟨inf, by simp [typeInfo, h1], h4⟩
theorem isAgg_run {t : Nat} {i : TI} (h : E.ty t = some i) : (Go.isAgg t).run P w = .ok (isAgg i.d) w := by
  simp only [Go.isAgg, Sem.run_bind, und_run hE w h, Result.andThen_ok]
  unfold isAgg
  cases i.d <;> rfl
theorem part_run {ι : Inj} {t : Nat} {cs cs' : List Value} {off : Nat} {v : Value} (hcs : VRs ι cs cs') (h : part E t cs off = some v) : ∃ v', (Go.part t ⟨cs'⟩ off).run P w = .ok v' w ∧ VR ι v v' := by
  unfold part at h
  cases ht : E.ty t with
  | none => rw [ht] at h; cases h
  | some i =>
    rw [ht] at h
    simp only at h
    unfold Go.part
    simp only [Sem.run_bind, isAgg_run hE w ht, Result.andThen_ok]
    split at h
    · rename_i hagg
      cases h
      simp only [hagg, if_true, Sem.run_bind, size_run hE w ht, Result.andThen_ok, Sem.run_pure]
      refine ⟨_, rfl, ?_⟩
      have e : (Array.mk cs').extract off (off + i.size) = Array.mk ((cs'.drop off).take i.size) := by
        apply Array.ext'
        simp [List.extract_eq_take_drop, Nat.add_sub_cancel_left]
      rw [e]
      exact .agg ((hcs.drop off).take i.size)
    · rename_i hagg
      obtain ⟨v', h1, h2⟩ := hcs.get off v h
      have e : (Array.mk cs')[off]? = some v' := by simpa using h1
      simp only [hagg, if_false, e, Bool.false_eq_true, Sem.run_pure]
      exact ⟨v', rfl, h2⟩
end

theorem sem_pure_run {s : Sem Value} {v : Value} {n n' : Nat} {d : Delta} {σ : Store} (h : (ofSem s).run n σ = some (v, n', d)) : s = .pure v ∧ d = [] ∧ n' = n := by
  unfold ofSem at h
  split at h
  · obtain ⟨rfl, rfl, rfl⟩ := ret_run h; exact ⟨rfl, rfl, rfl⟩
  · exact (fail_run h).elim
end Go.Proofs.YtgajcmanompmcaaV
