/- The abstract machine: steps, and regions in the order of the text. -/
import Derived.Test.YtgajcmanompmcaaVmM
set_option linter.unusedVariables false
set_option linter.unusedSimpArgs false
namespace Go.Proofs.YtgajcmanompmcaaV
open Go.RowKit

abbrev Tm := Nat → Value
def upd (τ : Tm) (dst : Option Nat) (v : Value) : Tm := match dst with
  | none => τ
  | some d => fun t => if t = d then v else τ t
def wantA (ops : Array Oper) (τ : Tm) (o : Oper) : Bool := match o.guard with
  | none => true
  | some (j, want) => match (ops[j]?).bind (·.dst) with
    | none => false
    | some t => match τ t with
      | .bool b => b == want
      | _ => false
abbrev CallRel := Nat → List Value → Nat → Store → Value → Nat → Delta → Prop
inductive Step (E : Env) (C : CallRel) (τ : Tm) (o : Oper) (n : Nat) (σ : Store) : Value → Nat → Delta → Prop
  | op {v n' d} (h : (aop E τ o).run n σ = some (v, n', d)) : Step E C τ o n σ v n' d
  | call {v n' d c f g first cap args} (ho : o.op = .call c) (hc : c.callee = .value f) (hf : args1 τ f = some (.func (.func g) first cap)) (ha : evL τ c.args.toList = some args) (h : C g (first.toList ++ args ++ cap.toList) n σ v n' d) : Step E C τ o n σ v n' d
def dstOk (m : Nat) (o : Oper) : Bool := match o.dst with
  | none => true
  | some d => Nat.blt d m
inductive Ops (E : Env) (C : CallRel) (ops : Array Oper) (m : Nat) : List Oper → Tm → Nat → Store → Tm → Nat → Delta → Prop
  | nil {τ n σ} : Ops E C ops m [] τ n σ τ n []
  | on {o rest τ n σ v n1 d1 τ' n' d2} (hw : wantA ops τ o = true) (hd : dstOk m o = true) (hs : Step E C τ o n σ v n1 d1) (hr : Ops E C ops m rest (upd τ o.dst v) n1 (app d1 σ) τ' n' d2) : Ops E C ops m (o :: rest) τ n σ τ' n' (d2 ++ d1)
  | off {o rest τ n σ τ' n' d} (hw : wantA ops τ o = false) (hd : dstOk m o = true) (hr : Ops E C ops m rest (upd τ o.dst undef) n σ τ' n' d) : Ops E C ops m (o :: rest) τ n σ τ' n' d

/-- What keys an execution may write. -/
def KeysOk (n n' : Nat) (σ : Store) (d : Delta) : Prop := n ≤ n' ∧ ∀ i ∈ keys d, (σ i).isSome = true ∨ (n ≤ i ∧ i < n')
/-- What stands at the end, in whatever memory. -/
def End (D : Den) (N : Nat) (w0 : World) (ι : Inj) (σ : Store) (n n' : Nat) (d : Delta) (κ : Inj) (w' : World) : Prop :=
  ι.le κ ∧ (∀ i, κ i ≠ ι i → n ≤ i ∧ i < n') ∧ Rel D N w0 κ (app d σ) w'
def Fresh (ι : Inj) (n n' : Nat) : Prop := ∀ i, n ≤ i → i < n' → ι i = none
def CallOk (P : Program) (D : Den) (C : CallRel) : Prop := ∀ f args n σ v n' d, C f args n σ v n' d → (∀ (as : Array Value) (w : World), (callFunc f as).run P w = .ok (.enter f as) w) ∧ KeysOk n n' σ d ∧
  ∀ (N : Nat) (w0 : World) (σ2 : Store) (ι : Inj) (w : World) (args' : List Value) (R : Ending → World → Prop), Sub σ σ2 → Rel D N w0 ι σ2 w → VRs ι args args' → Fresh ι n n' →
    (∀ κ w' v', End D N w0 ι σ2 n n' d κ w' → VR κ v v' → R (.returned v') w') → Calls P f ⟨args'⟩ w R

theorem keys_append (d e : Delta) : keys (d ++ e) = keys d ++ keys e := by simp [keys]
theorem app_isSome {d : Delta} {σ : Store} {i : Nat} (h : (app d σ i).isSome = true) : i ∈ keys d ∨ (σ i).isSome = true := by
  by_cases hi : i ∈ keys d
  · exact .inl hi
  · rw [app_off hi] at h; exact .inr h
theorem KeysOk.append {n n1 n' : Nat} {σ : Store} {d1 d2 : Delta} (h1 : KeysOk n n1 σ d1) (h2 : KeysOk n1 n' (app d1 σ) d2) : KeysOk n n' σ (d2 ++ d1) := by
  refine ⟨Nat.le_trans h1.1 h2.1, fun i hi => ?_⟩
  have k1 := h1.1
  have k2 := h2.1
  have first : i ∈ keys d1 → (σ i).isSome = true ∨ (n ≤ i ∧ i < n') := fun h => by
    rcases h1.2 i h with h | h
    · exact .inl h
    · exact .inr (by omega)
  rw [keys_append, List.mem_append] at hi
  rcases hi with hi | hi
  · rcases h2.2 i hi with h | h
    · rcases app_isSome h with h | h
      · exact first h
      · exact .inl h
    · exact .inr (by omega)
  · exact first hi

theorem TR_upd {ι : Inj} {τ : Tm} {a : Act} {v v' : Value} (h : TR ι τ a) (hv : VR ι v v') (dst : Option Nat) {m : Nat} (hm : a.tmps.size = m) (hd : ∀ d, dst = some d → d < m) : TR ι (upd τ dst v) (a.put dst v') := by
  cases dst with
  | none => exact h
  | some d =>
    intro t
    have := hd d rfl
    simp only [upd, Act.put]
    by_cases ht : t = d
    · subst ht
      rw [if_pos rfl]
      have : (a.tmps.setIfInBounds t v').getD t undef = v' := by simp [hm, this]
      rw [this]; exact hv
    · rw [if_neg ht]
      have : (a.tmps.setIfInBounds d v').getD t undef = a.tmps.getD t undef := by
        simp [Array.getElem?_setIfInBounds_ne (fun e => ht e.symm)]
      rw [this]; exact h t
theorem put_size (a : Act) (dst : Option Nat) (v : Value) : (a.put dst v).tmps.size = a.tmps.size := by cases dst <;> simp [Act.put]
theorem put_defers (a : Act) (dst : Option Nat) (v : Value) : (a.put dst v).defers = a.defers := by cases dst <;> rfl
theorem dstOk_lt {m : Nat} {o : Oper} (h : dstOk m o = true) : ∀ d, o.dst = some d → d < m := by
  intro d hd
  simp only [dstOk, hd] at h
  exact Nat.le_of_ble_eq_true h
theorem TR.mono {ι κ : Inj} {τ : Tm} {a : Act} (h : TR ι τ a) (hk : ι.le κ) : TR κ τ a := fun t => (h t).mono hk

theorem want_run {ι : Inj} {τ : Tm} {a : Act} (h : TR ι τ a) (ops : Array Oper) (o : Oper) : Region.wanted o (yielded ops a.tmps) = wantA ops τ o := by
  unfold Region.wanted wantA
  cases o.guard with
  | none => rfl
  | some g =>
    obtain ⟨j, want⟩ := g
    simp only
    unfold yielded
    cases hd : (ops[j]?).bind (·.dst) with
    | none => rfl
    | some t =>
      simp only [Option.bind_some]
      have ht := h t
      rw [Array.getD_eq_getD_getElem?] at ht
      cases ha : a.tmps[t]? with
      | none =>
        rw [ha] at ht
        simp only [Option.getD_none, undef] at ht
        generalize τ t = x at ht
        cases ht
        rfl
      | some y =>
        rw [ha] at ht
        simp only [Option.getD_some] at ht
        generalize τ t = x at ht
        cases ht <;> first | rfl | (rename_i b; cases b <;> cases want <;> rfl)

section
variable {P : Program} {E : Env} {C : CallRel} {ι : Inj} {N : Nat} {w0 w : World}

theorem Step.keysOk (hC : CallOk P E.den C) {τ : Tm} {o : Oper} {n n' : Nat} {σ : Store} {v : Value} {d : Delta} (h : Step E C τ o n σ v n' d) : KeysOk n n' σ d := by
  cases h with
  | op h =>
    obtain ⟨h1, h2⟩ := (wf_aop (S := fun _ => False) E τ o).keys h
    exact ⟨h1, fun i hi => (h2 i hi).resolve_left id⟩
  | call ho hc hf ha h => exact (hC _ _ _ _ _ _ _ h).2.1

/-- One operation. -/
theorem Step.sound (hE : EnvOk P E) (hC : CallOk P E.den C) {τ : Tm} {o : Oper} {n n' : Nat} {σ σ2 : Store} {v : Value} {d : Delta} (h : Step E C τ o n σ v n' d) (hs : Sub σ σ2) (hR : Rel E.den N w0 ι σ2 w) {a : Act} (hτ : TR ι τ a) (hf : Fresh ι n n') {K : Act → World → Prop} {Q : Exit → Act → World → Prop}
    (hK : ∀ κ w' v', End E.den N w0 ι σ2 n n' d κ w' → VR κ v v' → K (a.put o.dst v') w') : o.wp P a w K Q := by
  cases h with
  | op h =>
    obtain ⟨nx, w', v', κ, h1, h2, h3, h4, h5, h6⟩ := aop_sound hE hR hτ hf (T.mono hs h)
    unfold Oper.wp
    rw [h1]
    rcases h2 with rfl | ⟨rfl, rfl⟩
    · exact hK κ w' v' ⟨h3, h4, h5⟩ h6
    · exact hK κ w' undef ⟨h3, h4, h5⟩ h6
  | @call c f g first cap args ho hc hf' ha h =>
    have hv := args1_sound hτ hf'
    have hl := evL_sound hτ ha
    generalize hfe : a.eval f = fv at hv
    cases hv with
    | @func _ fa fa' fb fb' h1 h2 =>
      have e : c.args.map a.eval = ⟨c.args.toList.map a.eval⟩ := by apply Array.ext'; simp
      obtain ⟨k0, k1, k2⟩ := hC _ _ _ _ _ _ _ h
      have hex : (execOp a.eval o).run P w = (callFunc g ((⟨fa'⟩ : Array Value) ++ ⟨c.args.toList.map a.eval⟩ ++ ⟨fb'⟩)).run P w := by
        unfold execOp
        rw [ho]
        simp only [resolve, hc, hfe, Deferred.ofValue, e, Sem.run_bind, Sem.run_pure, Result.andThen_ok, invoke]
      have hargs : ((⟨fa'⟩ : Array Value) ++ ⟨c.args.toList.map a.eval⟩ ++ ⟨fb'⟩) = ⟨fa' ++ c.args.toList.map a.eval ++ fb'⟩ := by apply Array.ext'; simp
      have hcalls := k2 N w0 σ2 ι w (fa' ++ c.args.toList.map a.eval ++ fb') (fun e w'' => match e with
        | .returned v' => K (a.put o.dst v') w''
        | .panicked chain => Q (.panic chain) a w''
        | .outgrown => LetsOut Q) hs hR ((h1.append hl).append h2) hf (fun κ w' v' hend hv => hK κ w' v' hend hv)
      unfold Oper.wp
      rw [hex, hargs]
      rw [k0]
      show Calls P g _ w _
      refine hcalls.mono fun e w'' he => ?_
      cases e <;> exact he
end
end Go.Proofs.YtgajcmanompmcaaV
