/- The abstract machine: code and calls. -/
import Derived.Test.YtgajcmanompmcaaVmP
set_option linter.unusedVariables false
set_option linter.unusedSimpArgs false
namespace Go.Proofs.YtgajcmanompmcaaV
open Go.RowKit

inductive AX where
  | normal
  | exit (id : Nat)
  | ret
deriving DecidableEq
def AX.toExit : AX → Exit
  | .normal => .normal
  | .exit i => .exit i
  | .ret => .ret
def AX.inBlock (id : Nat) : AX → AX
  | .exit i => if i = id then .normal else .exit i
  | x => x

/-- Less is told: new objects that nobody asks for any more. -/
structure Less (n n' : Nat) (d0 d : Delta) : Prop where
  sub : ∀ x ∈ keys d, x ∈ keys d0 ∧ ∀ τ : Store, app d τ x = app d0 τ x
  gone : ∀ x ∈ keys d0, x ∈ keys d ∨ (n ≤ x ∧ x < n')
theorem Less.refl (n n' : Nat) (d : Delta) : Less n n' d d := ⟨fun x h => ⟨h, fun _ => rfl⟩, fun x h => .inl h⟩
theorem Less.keysOk {n n' : Nat} {σ : Store} {d0 d : Delta} (h : Less n n' d0 d) (k : KeysOk n n' σ d0) : KeysOk n n' σ d := ⟨k.1, fun i hi => k.2 i (h.sub i hi).1⟩
theorem Less.rel {D : Den} {n n' : Nat} {σ : Store} {d0 d : Delta} {N : Nat} {w0 w : World} {κ : Inj} (h : Less n n' d0 d) (hf : ∀ i, n ≤ i → i < n' → σ i = none) (hR : Rel D N w0 κ (app d0 σ) w) : Rel D N w0 κ (app d σ) w :=
  hR.less fun i o e => by
    by_cases hi : i ∈ keys d
    · rw [← (h.sub i hi).2 σ]; exact e
    · rw [app_off hi] at e
      by_cases h0 : i ∈ keys d0
      · rcases h.gone i h0 with h1 | h1
        · exact absurd h1 hi
        · rw [hf i h1.1 h1.2] at e; cases e
      · rw [app_off h0]; exact e

inductive Run (E : Env) (C : CallRel) (m : Nat) : Code → Tm → Nat → Store → AX → Tm → Nat → Delta → Prop
  | skip {τ n σ} : Run E C m .skip τ n σ .normal τ n []
  | region {id ops τ n σ τ' n' d} (h : Ops E C ops m ops.toList τ n σ τ' n' d) : Run E C m (.region id ops false) τ n σ .normal τ' n' d
  | par {id ops τ n σ τ' n' d} (h : Par E C ops m τ n σ τ' n' d) : Run E C m (.region id ops true) τ n σ .normal τ' n' d
  | seqN {a b τ n σ τ1 n1 d1 x τ' n' d2} (h1 : Run E C m a τ n σ .normal τ1 n1 d1) (h2 : Run E C m b τ1 n1 (app d1 σ) x τ' n' d2) : Run E C m (.seq a b) τ n σ x τ' n' (d2 ++ d1)
  | seqX {a b τ n σ x τ' n' d} (h1 : Run E C m a τ n σ x τ' n' d) (hx : x ≠ .normal) : Run E C m (.seq a b) τ n σ x τ' n' d
  | cond {c a b t τ n σ x τ' n' d} (hc : args1 τ c = some (.bool t)) (h : Run E C m (if t then a else b) τ n σ x τ' n' d) : Run E C m (.cond c a b) τ n σ x τ' n' d
  | block {id c τ n σ x τ' n' d} (h : Run E C m c τ n σ x τ' n' d) : Run E C m (.block id c) τ n σ (x.inBlock id) τ' n' d
  | loopN {c τ n σ τ1 n1 d1 x τ' n' d2} (h1 : Run E C m c τ n σ .normal τ1 n1 d1) (h2 : Run E C m (.loop c) τ1 n1 (app d1 σ) x τ' n' d2) : Run E C m (.loop c) τ n σ x τ' n' (d2 ++ d1)
  | loopX {c τ n σ x τ' n' d} (h1 : Run E C m c τ n σ x τ' n' d) (hx : x ≠ .normal) : Run E C m (.loop c) τ n σ x τ' n' d
  | exit {id τ n σ} : Run E C m (.exit id) τ n σ (.exit id) τ n []
  | ret {τ n σ} : Run E C m .ret τ n σ .ret τ n []
  | less {c τ n σ x τ' n' d0 d} (h : Run E C m c τ n σ x τ' n' d0) (hl : Less n n' d0 d) : Run E C m c τ n σ x τ' n' d

section
variable {P : Program} {E : Env} {C : CallRel} {N : Nat} {w0 : World}

theorem ops_sound (hE : EnvOk P E) (hC : CallOk P E.den C) {ops : Array Oper} {m : Nat} {l : List Oper} {τ τ' : Tm} {n n' : Nat} {σ : Store} {d : Delta} (h : Ops E C ops m l τ n σ τ' n' d) : KeysOk n n' σ d ∧
    ∀ (k : Nat) (σ2 : Store) (ι : Inj) (w : World) (a : Act) (Q : Exit → Act → World → Prop), l = ops.toList.drop k → Sub σ σ2 → Rel E.den N w0 ι σ2 w → TR ι τ a → a.tmps.size = m → a.defers = [] → Fresh ι n n' →
      (∀ κ w' a', End E.den N w0 ι σ2 n n' d κ w' → TR κ τ' a' → a'.tmps.size = m → a'.defers = [] → Q .normal a' w') → wpOps P ops Q (List.range' k (ops.size - k)) a w := by
  induction h with
  | @nil τ n σ =>
    refine ⟨⟨Nat.le_refl _, fun i hi => by simp [keys] at hi⟩, fun k σ2 ι w a Q hl hs hR hT hm hdf hf hQ => ?_⟩
    have : ops.size - k = 0 := by
      have := congrArg List.length hl
      simp at this; omega
    rw [this]
    exact hQ ι w a ⟨Inj.le_refl _, fun i h => absurd rfl h, hR⟩ hT hm hdf
  | @on o rest τ n σ v n1 d1 τ' n' d2 hw hd hs hr ih =>
    have k1 := hs.keysOk hC
    refine ⟨k1.append ih.1, fun k σ2 ι w a Q hl hsub hR hT hm hdf hf hQ => ?_⟩
    have hk : k < ops.size := by
      have := congrArg List.length hl
      simp at this; omega
    have hko : ops[k]? = some o := by
      have : (ops.toList.drop k)[0]? = some o := by rw [← hl]; rfl
      simpa using this
    have hrest : rest = ops.toList.drop (k + 1) := by
      have := congrArg List.tail hl
      simpa using this
    rw [show ops.size - k = (ops.size - (k + 1)) + 1 by omega, List.range'_succ, wpOps_cons]
    unfold wpOp
    rw [hko]
    simp only
    rw [want_run hT ops o, hw]
    simp only [if_true]
    left
    have b1 := k1.1
    have b2 := ih.1.1
    refine hs.sound hE hC hsub hR hT (fun i h1 h2 => hf i h1 (by omega)) fun κ w' v' hend hv => ?_
    refine ih.2 (k + 1) (app d1 σ2) κ w' _ Q hrest (hsub.app d1) hend.2.2 (TR_upd (hT.mono hend.1) hv o.dst hm (dstOk_lt hd)) (by rw [put_size]; exact hm) (by rw [put_defers]; exact hdf) (fun i h1 h2 => ?_) fun κ2 w2 a2 hend2 hT2 hm2 hdf2 => hQ κ2 w2 a2 ⟨Inj.le_trans hend.1 hend2.1, fun i hi => ?_, by rw [app_append]; exact hend2.2.2⟩ hT2 hm2 hdf2
    · by_cases hk : κ i = ι i
      · rw [hk]; exact hf i (by omega) h2
      · have := hend.2.1 i hk; omega
    · by_cases hk : κ2 i = κ i
      · rw [hk] at hi; have := hend.2.1 i hi; omega
      · have := hend2.2.1 i hk; omega
  | @off o rest τ n σ τ' n' d hw hd hr ih =>
    refine ⟨ih.1, fun k σ2 ι w a Q hl hsub hR hT hm hdf hf hQ => ?_⟩
    have hk : k < ops.size := by
      have := congrArg List.length hl
      simp at this; omega
    have hko : ops[k]? = some o := by
      have : (ops.toList.drop k)[0]? = some o := by rw [← hl]; rfl
      simpa using this
    have hrest : rest = ops.toList.drop (k + 1) := by
      have := congrArg List.tail hl
      simpa using this
    rw [show ops.size - k = (ops.size - (k + 1)) + 1 by omega, List.range'_succ, wpOps_cons]
    unfold wpOp
    rw [hko]
    simp only
    rw [want_run hT ops o, hw]
    simp only [Bool.false_eq_true, if_false]
    exact ih.2 (k + 1) σ2 ι w _ Q hrest hsub hR (TR_upd hT (undef_VR ι) o.dst hm (dstOk_lt hd)) (by rw [put_size]; exact hm) (by rw [put_defers]; exact hdf) hf hQ

/-- From a loop's head on. -/
def loopW (P : Program) (c : Code) (Q : Exit → Act → World → Prop) (a : Act) (w : World) : Prop :=
  ∀ (b : Frame) (k : List Item) (cs : List Frame), ∃ e a' w', Q e a' w' ∧ Arrives P (lone (b.at a (.code c :: .inLoop c :: k)) cs w) b k cs e a' w'
def cwp (P : Program) (c : Code) (Q : Exit → Act → World → Prop) (a : Act) (w : World) : Prop := match c with
  | .loop b => loopW P b Q a w
  | c => c.wp P Q a w
theorem cwp.wp {c : Code} {Q : Exit → Act → World → Prop} {a : Act} {w : World} (h : cwp P c Q a w) : c.wp P Q a w := by
  cases c with
  | loop c => exact fun b k cs => let ⟨e, a', w', q, r⟩ := h b k cs; ⟨e, a', w', q, .of_steps (.one step_loop) r⟩
  | _ => exact h
theorem loopW_next {c : Code} {Q : Exit → Act → World → Prop} {a : Act} {w : World} (h : c.wp P (Exit.then (loopW P c Q) Q) a w) : loopW P c Q a w := by
  intro b k cs
  obtain ⟨e, a₁, w₁, hq, harr⟩ := h b (.inLoop c :: k) cs
  cases e with
  | normal =>
    obtain ⟨e₂, a₂, w₂, hq₂, harr₂⟩ := hq b k cs
    exact ⟨e₂, a₂, w₂, hq₂, .of_steps (Steps.trans harr (.one step_inLoop)) harr₂⟩
  | exit id => exact ⟨_, a₁, w₁, hq, .pass (x := .inLoop c) rfl (fun _ _ => .inl (by simp)) harr⟩
  | goto l => exact ⟨_, a₁, w₁, hq, .pass (x := .inLoop c) rfl (fun _ _ => .inl (by simp)) harr⟩
  | ret => exact ⟨_, a₁, w₁, hq, .pass (x := .inLoop c) rfl (fun _ _ => .inl (by simp)) harr⟩
  | panic ch => exact ⟨_, a₁, w₁, hq, .pass (x := .inLoop c) rfl (fun _ _ => .inl (by simp)) harr⟩
  | outgrown => exact ⟨_, a₁, w₁, hq, .pass (x := .inLoop c) rfl (fun _ _ => .inl (by simp)) harr⟩

theorem rel_fresh {ι : Inj} {σ : Store} {w : World} {n n' : Nat} (hR : Rel E.den N w0 ι σ w) (hf : Fresh ι n n') : ∀ i, n ≤ i → i < n' → σ i = none := by
  intro i h1 h2
  cases h : σ i with
  | none => rfl
  | some o =>
    obtain ⟨p, hp, _⟩ := hR.obj i o h
    rw [hf i h1 h2] at hp; cases hp

theorem run_sound (hE : EnvOk P E) (hC : CallOk P E.den C) {m : Nat} {c : Code} {τ τ' : Tm} {n n' : Nat} {σ : Store} {x : AX} {d : Delta} (h : Run E C m c τ n σ x τ' n' d) : KeysOk n n' σ d ∧
    ∀ (σ2 : Store) (ι : Inj) (w : World) (a : Act) (Q : Exit → Act → World → Prop), Sub σ σ2 → Rel E.den N w0 ι σ2 w → TR ι τ a → a.tmps.size = m → a.defers = [] → Fresh ι n n' →
      (∀ κ w' a', End E.den N w0 ι σ2 n n' d κ w' → TR κ τ' a' → a'.tmps.size = m → a'.defers = [] → Q x.toExit a' w') → cwp P c Q a w := by
  have nilK : ∀ {n : Nat} {σ : Store}, KeysOk n n σ [] := ⟨Nat.le_refl _, fun i hi => by simp [keys] at hi⟩
  have chain : ∀ {ι κ κ2 : Inj} {σ2 : Store} {n n1 n' : Nat} {d1 d2 : Delta} {w' w2 : World}, n ≤ n1 → n1 ≤ n' → End E.den N w0 ι σ2 n n1 d1 κ w' → End E.den N w0 κ (app d1 σ2) n1 n' d2 κ2 w2 → End E.den N w0 ι σ2 n n' (d2 ++ d1) κ2 w2 := by
    intro ι κ κ2 σ2 n n1 n' d1 d2 w' w2 b1 b2 h1 h2
    refine ⟨Inj.le_trans h1.1 h2.1, fun i hi => ?_, by rw [app_append]; exact h2.2.2⟩
    by_cases hk : κ2 i = κ i
    · rw [hk] at hi; have := h1.2.1 i hi; omega
    · have := h2.2.1 i hk; omega
  have fresh2 : ∀ {ι κ : Inj} {σ2 : Store} {n n1 n' : Nat} {d1 : Delta} {w' : World}, n ≤ n1 → Fresh ι n n' → End E.den N w0 ι σ2 n n1 d1 κ w' → Fresh κ n1 n' := by
    intro ι κ σ2 n n1 n' d1 w' b1 hf h1 i i1 i2
    by_cases hk : κ i = ι i
    · rw [hk]; exact hf i (by omega) i2
    · have := h1.2.1 i hk; omega
  induction h with
  | @skip τ n σ => exact ⟨nilK, fun σ2 ι w a Q hs hR hT hm hdf hf hQ => wp_skip (hQ ι w a ⟨Inj.le_refl _, fun i h => absurd rfl h, hR⟩ hT hm hdf)⟩
  | @exit id τ n σ => exact ⟨nilK, fun σ2 ι w a Q hs hR hT hm hdf hf hQ => wp_exit (hQ ι w a ⟨Inj.le_refl _, fun i h => absurd rfl h, hR⟩ hT hm hdf)⟩
  | @ret τ n σ => exact ⟨nilK, fun σ2 ι w a Q hs hR hT hm hdf hf hQ => wp_ret (hQ ι w a ⟨Inj.le_refl _, fun i h => absurd rfl h, hR⟩ hT hm hdf)⟩
  | @region id ops τ n σ τ' n' d h =>
    obtain ⟨k1, k2⟩ := ops_sound (N := N) (w0 := w0) hE hC h
    refine ⟨k1, fun σ2 ι w a Q hs hR hT hm hdf hf hQ => ?_⟩
    refine wp_region ?_
    rw [List.range_eq_range']
    exact k2 0 σ2 ι w a Q (by simp) hs hR hT hm hdf hf hQ
  | @par id ops τ n σ τ' n' d h =>
    have hs0 := Par.sound (N := N) (w0 := w0) (σ2 := σ) hE hC h
    refine ⟨hs0.1, fun σ2 ι w a Q hs hR hT hm hdf hf hQ => ?_⟩
    exact (Par.sound (N := N) (w0 := w0) (σ2 := σ2) hE hC h).2 ι w a id Q hs hR hT hm hdf hf hQ
  | @seqN a b τ n σ τ1 n1 d1 x τ' n' d2 h1 h2 ih1 ih2 =>
    have b1 := ih1.1.1
    have b2 := ih2.1.1
    refine ⟨ih1.1.append ih2.1, fun σ2 ι w act Q hs hR hT hm hdf hf hQ => ?_⟩
    refine wp_seq (ih1.2 σ2 ι w act _ hs hR hT hm hdf (fun i i1 i2 => hf i i1 (by omega)) fun κ w' a' hend hT' hm' hdf' => ?_).wp
    exact (ih2.2 (app d1 σ2) κ w' a' Q (hs.app d1) hend.2.2 hT' hm' hdf' (fresh2 b1 hf hend) fun κ2 w2 a2 hend2 => hQ κ2 w2 a2 (chain b1 b2 hend hend2)).wp
  | @seqX a b τ n σ x τ' n' d h1 hx ih =>
    refine ⟨ih.1, fun σ2 ι w act Q hs hR hT hm hdf hf hQ => ?_⟩
    refine wp_seq (ih.2 σ2 ι w act _ hs hR hT hm hdf hf fun κ w' a' hend hT' hm' hdf' => ?_).wp
    have := hQ κ w' a' hend hT' hm' hdf'
    cases x with
    | normal => exact absurd rfl hx
    | exit i => exact this
    | ret => exact this
  | @cond c a b t τ n σ x τ' n' d hc h ih =>
    refine ⟨ih.1, fun σ2 ι w act Q hs hR hT hm hdf hf hQ => ?_⟩
    have hv := args1_sound hT hc
    generalize hce : act.eval c = cv at hv
    cases hv
    exact wp_cond hce (ih.2 σ2 ι w act Q hs hR hT hm hdf hf hQ).wp
  | @block id c τ n σ x τ' n' d h ih =>
    refine ⟨ih.1, fun σ2 ι w act Q hs hR hT hm hdf hf hQ => ?_⟩
    refine wp_block (ih.2 σ2 ι w act _ hs hR hT hm hdf hf fun κ w' a' hend hT' hm' hdf' => ?_).wp
    have := hQ κ w' a' hend hT' hm' hdf'
    cases x with
    | normal => exact this
    | ret => exact this
    | exit i =>
      simp only [AX.inBlock] at this
      simp only [AX.toExit, Exit.inBlock]
      split
      · rename_i hi
        rw [if_pos hi] at this; exact this
      · rename_i hi
        rw [if_neg hi] at this; exact this
  | @loopN c τ n σ τ1 n1 d1 x τ' n' d2 h1 h2 ih1 ih2 =>
    have b1 := ih1.1.1
    have b2 := ih2.1.1
    refine ⟨ih1.1.append ih2.1, fun σ2 ι w act Q hs hR hT hm hdf hf hQ => ?_⟩
    refine loopW_next (ih1.2 σ2 ι w act _ hs hR hT hm hdf (fun i i1 i2 => hf i i1 (by omega)) fun κ w' a' hend hT' hm' hdf' => ?_).wp
    exact ih2.2 (app d1 σ2) κ w' a' Q (hs.app d1) hend.2.2 hT' hm' hdf' (fresh2 b1 hf hend) fun κ2 w2 a2 hend2 => hQ κ2 w2 a2 (chain b1 b2 hend hend2)
  | @loopX c τ n σ x τ' n' d h1 hx ih =>
    refine ⟨ih.1, fun σ2 ι w act Q hs hR hT hm hdf hf hQ => ?_⟩
    refine loopW_next (ih.2 σ2 ι w act _ hs hR hT hm hdf hf fun κ w' a' hend hT' hm' hdf' => ?_).wp
    have := hQ κ w' a' hend hT' hm' hdf'
    cases x with
    | normal => exact absurd rfl hx
    | exit i => exact this
    | ret => exact this
  | @less c τ n σ x τ' n' d0 d h hl ih =>
    refine ⟨hl.keysOk ih.1, fun σ2 ι w act Q hs hR hT hm hdf hf hQ => ?_⟩
    exact ih.2 σ2 ι w act Q hs hR hT hm hdf hf fun κ w' a' hend => hQ κ w' a' ⟨hend.1, hend.2.1, hl.rel (rel_fresh hR hf) hend.2.2⟩

/-! ### Calls -/
def res1 (E : Env) (τ : Tm) (σ : Store) : ResultVar → Option Value
  | .tmp t => some (τ t)
  | .cell a t => match τ a with
    | .pointer (some ⟨i, k, some j⟩) => match E.ty t, σ i with
      | some ti, some ob => match ob.es[k]? with
        | some e => if ((e.drop j).take ti.size).length = ti.size then mkv ti.d ((e.drop j).take ti.size) else none
        | none => none
      | _, _ => none
    | _ => none
def resL (E : Env) (τ : Tm) (σ : Store) : List ResultVar → Option (List Value)
  | [] => some []
  | r :: l => match res1 E τ σ r, resL E τ σ l with
    | some v, some vs => some (v :: vs)
    | _, _ => none
def one : List Value → Value
  | [v] => v
  | vs => .tuple ⟨vs⟩
def init (args : List Value) : Tm := fun t => args.getD t undef
def CallK (E : Env) : Nat → CallRel
  | 0 => fun _ _ _ _ _ _ _ => False
  | k + 1 => fun f args n σ v n' d => ∃ fn c x τ' d0 vs, E.fn f = some fn ∧ fn.body = some c ∧ args.length ≤ fn.ntmps ∧ Run E (CallK E k) fn.ntmps c (init args) n σ x τ' n' d0 ∧ (x = .normal ∨ x = .ret) ∧ resL E τ' (app d0 σ) fn.results.toList = some vs ∧ v = one vs ∧ Less n n' d0 d

theorem res1_run (hE : EnvOk P E) {ι : Inj} {σ σ2 : Store} {w : World} {τ : Tm} {a : Act} (hs : Sub σ σ2) (hR : Rel E.den N w0 ι σ2 w) (hT : TR ι τ a) {r : ResultVar} {v : Value} (h : res1 E τ σ r = some v) :
    ∃ v', ((match r with | .tmp t => pure (a.tmps.getD t undef) | .cell b t => do loadVar t (← asAddr (a.tmps.getD b undef)) : Sem Value)).run P w = .ok v' w ∧ VR ι v v' := by
  cases r with
  | tmp t => simp [res1] at h; subst h; exact ⟨_, rfl, hT t⟩
  | cell b t =>
    simp only [res1] at h
    have hb := hT b
    generalize hxb : a.tmps.getD b undef = x' at hb
    split at h
    · rename_i i k j hp
      rw [hp] at hb
      split at h
      · rename_i ti ob ht ho
        split at h
        · rename_i e he
          split at h
          · rename_i hl
            cases hb with
            | @ptr _ _ _ p hp =>
              obtain ⟨q, g1, g2, g3⟩ := hR.obj i ob (hs i ob ho)
              rw [hp] at g1; cases g1
              obtain ⟨c', h1, h2⟩ := seg_of g3 he j ti.size
              have hlen : c'.length = ti.size := by rw [← h1.length, hl]
              have hload := run_loadCells_list (P := P) w ⟨p.b, p.off + k * p.sz + j, none⟩ c' h2
              rw [hlen] at hload
              unfold mkv at h
              split at h
              · rename_i hagg
                cases h
                refine ⟨.agg ⟨c'⟩, ?_, .agg h1⟩
                simp only [hxb, asAddr, Sem.run_bind, Sem.run_pure, Result.andThen_ok, loadVar, isAgg_run hE w ht, hagg, if_true, size_run hE w ht, hload]
              · rename_i hagg
                split at h
                · rename_i y hy
                  cases h
                  rw [hy] at h1
                  cases h1 with
                  | @cons _ v' _ _ hv hs =>
                    cases hs
                    have hc := h2 0 v' rfl
                    rw [addr_add, Nat.add_zero] at hc
                    refine ⟨v', ?_, hv⟩
                    simp only [hxb, asAddr, Sem.run_bind, Sem.run_pure, Result.andThen_ok, loadVar, isAgg_run hE w ht, hagg, Bool.false_eq_true, if_false, run_load, hc]
                · cases h
          · cases h
        · cases h
      · cases h
    · cases h

theorem resL_run (hE : EnvOk P E) {ι : Inj} {σ σ2 : Store} {w : World} {τ : Tm} {a : Act} (hs : Sub σ σ2) (hR : Rel E.den N w0 ι σ2 w) (hT : TR ι τ a) {F : ResultVar → Sem Value} (hF : ∀ r, F r = (match r with | .tmp t => pure (a.tmps.getD t undef) | .cell b t => do loadVar t (← asAddr (a.tmps.getD b undef)))) : ∀ {l : List ResultVar} {vs : List Value}, resL E τ σ l = some vs →
    ∃ vs', (l.mapM F).run P w = .ok vs' w ∧ VRs ι vs vs'
  | [], vs, h => by simp [resL] at h; subst h; exact ⟨[], rfl, .nil⟩
  | r :: l, vs, h => by
    simp only [resL] at h
    split at h
    · rename_i v vs1 h1 h2
      cases h
      obtain ⟨v', e1, e2⟩ := res1_run hE hs hR hT h1
      obtain ⟨vs', f1, f2⟩ := resL_run hE hs hR hT hF h2
      rw [← hF r] at e1
      refine ⟨v' :: vs', ?_, .cons e2 f2⟩
      rw [List.mapM_cons]
      simp only [Sem.run_bind, e1, Result.andThen_ok, f1, Sem.run_pure]
    · cases h

theorem results_run (hE : EnvOk P E) {ι : Inj} {σ σ2 : Store} {w : World} {τ : Tm} {a : Act} (hs : Sub σ σ2) (hR : Rel E.den N w0 ι σ2 w) (hT : TR ι τ a) {fn : Func} {vs : List Value} (h : resL E τ σ fn.results.toList = some vs) :
    ∃ v', (results fn a.tmps).run P w = .ok v' w ∧ VR ι (one vs) v' := by
  unfold results
  rw [Array.mapM_eq_mapM_toList]
  simp only [Sem.run_bind, Sem.run_map, Sem.run_pure]
  generalize hF : (fun (r : ResultVar) => _ : ResultVar → Sem Value) = F
  obtain ⟨vs', h1, h2⟩ := resL_run hE hs hR hT (F := F) (fun r => by rw [← hF]; cases r <;> rfl) h
  simp only [h1, Result.andThen_ok]
  refine ⟨_, rfl, ?_⟩
  cases h2 with
  | nil => exact .tuple .nil
  | cons hv hs =>
    cases hs with
    | nil => exact hv
    | cons hv2 hs2 => exact .tuple (.cons hv (.cons hv2 hs2))

theorem VRs.init {ι : Inj} {l l' : List Value} (h : VRs ι l l') (k : Nat) : ∀ t, VR ι (Go.Proofs.YtgajcmanompmcaaV.init l t) (((⟨l'⟩ : Array Value) ++ Array.replicate k undef).getD t undef) := by
  intro t
  unfold Go.Proofs.YtgajcmanompmcaaV.init
  rw [Array.getD_eq_getD_getElem?, List.getD_eq_getElem?_getD]
  have hl := h.length
  by_cases ht : t < l.length
  · obtain ⟨v', h1, h2⟩ := h.get t _ (List.getElem?_eq_getElem ht)
    rw [List.getElem?_eq_getElem ht]
    rw [Array.getElem?_append_left (by show t < l'.length; omega)]
    have : (⟨l'⟩ : Array Value)[t]? = some v' := by simpa using h1
    rw [this]
    exact h2
  · rw [List.getElem?_eq_none (by omega)]
    rw [Array.getElem?_append_right (by show l'.length ≤ t; omega)]
    have : ∀ q, ((Array.replicate k undef)[q]?).getD undef = undef := fun q => by
      rw [Array.getElem?_replicate]; split <;> rfl
    rw [this]
    exact undef_VR ι

theorem callK_ok (hE : EnvOk P E) : ∀ k, CallOk P E.den (CallK E k)
  | 0 => fun _ _ _ _ _ _ _ h => h.elim
  | k + 1 => by
    intro f args n σ v n' d h
    obtain ⟨fn, c, x, τ', d0, vs, hf, hb, hl, hrun, hx, hres, rfl, hless⟩ := h
    have hC := callK_ok hE k
    obtain ⟨hP, hname⟩ := hE.fn f fn hf
    refine ⟨fun as w => ?_, ?_, ?_⟩
    · unfold callFunc
      simp only [Sem.run_bind, run_program, Result.andThen_ok, hP, hname, Bool.false_eq_true, if_false, hb, Option.isNone_some, Sem.run_pure]
    · exact hless.keysOk (run_sound (N := 0) (w0 := default) hE hC hrun).1
    · intro N w0 σ2 ι w args' R hs hR hargs hfr hK
      refine calls_of_wp hP hb ?_
      have hl' : args'.length ≤ fn.ntmps := by rw [← hargs.length]; exact hl
      refine ((run_sound (N := N) (w0 := w0) hE hC hrun).2 σ2 ι w { tmps := ⟨args'⟩ ++ Array.replicate (fn.ntmps - args'.length) undef, defers := [] } _ hs hR (hargs.init _) ?_ rfl hfr fun κ w' a' hend hT hm hdf => ?_).wp
      · simp; omega
      · obtain ⟨v', h1, h2⟩ := results_run hE (hs.app d0) hend.2.2 hT hres
        have := hK κ w' v' ⟨hend.1, hend.2.1, hless.rel (rel_fresh hR hfr) hend.2.2⟩ h2
        rcases hx with rfl | rfl <;> exact ⟨hdf, v', h1, this⟩
end
end Go.Proofs.YtgajcmanompmcaaV
