/- The abstract machine: what code comes to, told by rules (a calculus for code over values that are not known). -/
import Derived.Test.YtgajcmanompmcaaVmU
set_option linter.unusedVariables false
set_option linter.unusedSimpArgs false
namespace Go.Proofs.YtgajcmanompmcaaV
open Go Go.RowKit

/-- Calls, told by what they mean. -/
def SC (P : Program) (D : Den) : CallRel := fun f args n σ v n' d => (∀ (as : Array Value) (w : World), (callFunc f as).run P w = .ok (.enter f as) w) ∧ KeysOk n n' σ d ∧
  ∀ (N : Nat) (w0 : World) (σ2 : Store) (ι : Inj) (w : World) (args' : List Value) (R : Ending → World → Prop), Sub σ σ2 → Rel D N w0 ι σ2 w → VRs ι args args' → Fresh ι n n' →
    (∀ κ w' v', End D N w0 ι σ2 n n' d κ w' → VR κ v v' → R (.returned v') w') → Calls P f ⟨args'⟩ w R
theorem SC_ok (P : Program) (D : Den) : CallOk P D (SC P D) := fun _ _ _ _ _ _ _ h => h
theorem SC.of_callK {P : Program} {E : Env} (hE : EnvOk P E) {k f : Nat} {args : List Value} {n n' : Nat} {σ : Store} {v : Value} {d : Delta} (h : CallK E k f args n σ v n' d) : SC P E.den f args n σ v n' d := callK_ok hE k _ _ _ _ _ _ _ h
theorem SC.mono {P : Program} {D : Den} {f : Nat} {args : List Value} {n n' : Nat} {σ τ : Store} {v : Value} {d : Delta} (h : SC P D f args n σ v n' d) (hs : Sub σ τ) : SC P D f args n τ v n' d :=
  ⟨h.1, ⟨h.2.1.1, fun i hi => (h.2.1.2 i hi).imp (fun e => by
    cases ho : σ i with
    | none => rw [ho] at e; cases e
    | some o => rw [hs i o ho]; rfl) id⟩, fun N w0 σ2 ι w args' R h2 => h.2.2 N w0 σ2 ι w args' R (fun i o e => h2 i o (hs i o e))⟩

/-- What code comes to. -/
structure CR (P : Program) (E : Env) (m : Nat) (c : Code) (τ : Tm) (n : Nat) (σ : Store) (x : AX) (τ' : Tm) (n' : Nat) (d : Delta) : Prop where
  keys : KeysOk n n' σ d
  run : ∀ (N : Nat) (w0 : World) (σ2 : Store) (ι : Inj) (w : World) (a : Act) (Q : Exit → Act → World → Prop), Sub σ σ2 → Rel E.den N w0 ι σ2 w → TR ι τ a → a.tmps.size = m → a.defers = [] → Fresh ι n n' →
      (∀ κ w' a', End E.den N w0 ι σ2 n n' d κ w' → TR κ τ' a' → a'.tmps.size = m → a'.defers = [] → Q x.toExit a' w') → cwp P c Q a w
section
variable {P : Program} {E : Env} {m : Nat} {τ τ1 τ' : Tm} {n n1 n' : Nat} {σ : Store} {x : AX} {d d1 d2 : Delta} {c a b : Code}
theorem CR.of_run (hE : EnvOk P E) (h : Run E (SC P E.den) m c τ n σ x τ' n' d) : CR P E m c τ n σ x τ' n' d :=
  ⟨(run_sound (N := 0) (w0 := default) hE (SC_ok P E.den) h).1, fun N w0 => (run_sound (N := N) (w0 := w0) hE (SC_ok P E.den) h).2⟩
theorem CR.mono {σ2 : Store} (h : CR P E m c τ n σ x τ' n' d) (hs : Sub σ σ2) : CR P E m c τ n σ2 x τ' n' d :=
  ⟨⟨h.keys.1, fun i hi => (h.keys.2 i hi).imp (fun e => by
    cases ho : σ i with
    | none => rw [ho] at e; cases e
    | some o => rw [hs i o ho]; rfl) id⟩, fun N w0 σ3 ι w a Q h2 => h.run N w0 σ3 ι w a Q (fun i o e => h2 i o (hs i o e))⟩
theorem CR.less {d0 : Delta} (h : CR P E m c τ n σ x τ' n' d0) (hl : Less n n' d0 d) : CR P E m c τ n σ x τ' n' d :=
  ⟨hl.keysOk h.keys, fun N w0 σ2 ι w act Q hs hR hT hm hdf hf hQ => h.run N w0 σ2 ι w act Q hs hR hT hm hdf hf fun κ w' a' hend => hQ κ w' a' ⟨hend.1, hend.2.1, hl.rel (rel_fresh hR hf) hend.2.2⟩⟩
theorem End.chain {D : Den} {N : Nat} {w0 : World} {ι κ κ2 : Inj} {σ2 : Store} {n n1 n' : Nat} {d1 d2 : Delta} {w' w2 : World} (b1 : n ≤ n1) (b2 : n1 ≤ n') (h1 : End D N w0 ι σ2 n n1 d1 κ w') (h2 : End D N w0 κ (app d1 σ2) n1 n' d2 κ2 w2) : End D N w0 ι σ2 n n' (d2 ++ d1) κ2 w2 := by
  refine ⟨Inj.le_trans h1.1 h2.1, fun i hi => ?_, by rw [app_append]; exact h2.2.2⟩
  by_cases hk : κ2 i = κ i
  · rw [hk] at hi; have := h1.2.1 i hi; omega
  · have := h2.2.1 i hk; omega
theorem End.fresh {D : Den} {N : Nat} {w0 : World} {ι κ : Inj} {σ2 : Store} {n n1 n' : Nat} {d1 : Delta} {w' : World} (b1 : n ≤ n1) (hf : Fresh ι n n') (h1 : End D N w0 ι σ2 n n1 d1 κ w') : Fresh κ n1 n' := by
  intro i i1 i2
  by_cases hk : κ i = ι i
  · rw [hk]; exact hf i (by omega) i2
  · have := h1.2.1 i hk; omega
theorem CR.seqN (h1 : CR P E m a τ n σ .normal τ1 n1 d1) (h2 : CR P E m b τ1 n1 (app d1 σ) x τ' n' d2) : CR P E m (.seq a b) τ n σ x τ' n' (d2 ++ d1) := by
  have b1 := h1.keys.1
  have b2 := h2.keys.1
  refine ⟨h1.keys.append h2.keys, fun N w0 σ2 ι w act Q hs hR hT hm hdf hf hQ => ?_⟩
  refine wp_seq (h1.run N w0 σ2 ι w act _ hs hR hT hm hdf (fun i i1 i2 => hf i i1 (by omega)) fun κ w' a' hend hT' hm' hdf' => ?_).wp
  exact (h2.run N w0 (app d1 σ2) κ w' a' Q (hs.app d1) hend.2.2 hT' hm' hdf' (End.fresh b1 hf hend) fun κ2 w2 a2 hend2 => hQ κ2 w2 a2 (End.chain b1 b2 hend hend2)).wp
theorem CR.seqX (h1 : CR P E m a τ n σ x τ' n' d) (hx : x ≠ .normal) : CR P E m (.seq a b) τ n σ x τ' n' d := by
  refine ⟨h1.keys, fun N w0 σ2 ι w act Q hs hR hT hm hdf hf hQ => ?_⟩
  refine wp_seq (h1.run N w0 σ2 ι w act _ hs hR hT hm hdf hf fun κ w' a' hend hT' hm' hdf' => ?_).wp
  have := hQ κ w' a' hend hT' hm' hdf'
  cases x with
  | normal => exact absurd rfl hx
  | exit i => exact this
  | ret => exact this
theorem CR.cond {o : Operand} {t : Bool} (hc : args1 τ o = some (.bool t)) (h : CR P E m (if t then a else b) τ n σ x τ' n' d) : CR P E m (.cond o a b) τ n σ x τ' n' d := by
  refine ⟨h.keys, fun N w0 σ2 ι w act Q hs hR hT hm hdf hf hQ => ?_⟩
  have hv := args1_sound hT hc
  generalize hce : act.eval o = cv at hv
  cases hv
  exact wp_cond hce (h.run N w0 σ2 ι w act Q hs hR hT hm hdf hf hQ).wp
theorem CR.block {id : Nat} (h : CR P E m c τ n σ x τ' n' d) : CR P E m (.block id c) τ n σ (x.inBlock id) τ' n' d := by
  refine ⟨h.keys, fun N w0 σ2 ι w act Q hs hR hT hm hdf hf hQ => ?_⟩
  refine wp_block (h.run N w0 σ2 ι w act _ hs hR hT hm hdf hf fun κ w' a' hend hT' hm' hdf' => ?_).wp
  have := hQ κ w' a' hend hT' hm' hdf'
  cases x with
  | normal => exact this
  | ret => exact this
  | exit i =>
    simp only [AX.inBlock] at this
    simp only [AX.toExit, Exit.inBlock]
    split
    · rename_i hi
      rw [if_pos hi] at this; exact this
    · rename_i hi
      rw [if_neg hi] at this; exact this
theorem CR.loopN (h1 : CR P E m c τ n σ .normal τ1 n1 d1) (h2 : CR P E m (.loop c) τ1 n1 (app d1 σ) x τ' n' d2) : CR P E m (.loop c) τ n σ x τ' n' (d2 ++ d1) := by
  have b1 := h1.keys.1
  have b2 := h2.keys.1
  refine ⟨h1.keys.append h2.keys, fun N w0 σ2 ι w act Q hs hR hT hm hdf hf hQ => ?_⟩
  refine loopW_next (h1.run N w0 σ2 ι w act _ hs hR hT hm hdf (fun i i1 i2 => hf i i1 (by omega)) fun κ w' a' hend hT' hm' hdf' => ?_).wp
  exact h2.run N w0 (app d1 σ2) κ w' a' Q (hs.app d1) hend.2.2 hT' hm' hdf' (End.fresh b1 hf hend) fun κ2 w2 a2 hend2 => hQ κ2 w2 a2 (End.chain b1 b2 hend hend2)
theorem CR.loopX (h1 : CR P E m c τ n σ x τ' n' d) (hx : x ≠ .normal) : CR P E m (.loop c) τ n σ x τ' n' d := by
  refine ⟨h1.keys, fun N w0 σ2 ι w act Q hs hR hT hm hdf hf hQ => ?_⟩
  refine loopW_next (h1.run N w0 σ2 ι w act _ hs hR hT hm hdf hf fun κ w' a' hend hT' hm' hdf' => ?_).wp
  have := hQ κ w' a' hend hT' hm' hdf'
  cases x with
  | normal => exact absurd rfl hx
  | exit i => exact this
  | ret => exact this
/-- A call runs its function's body. -/
theorem SC.of_body (hE : EnvOk P E) {f : Nat} {fn : Func} {args vs : List Value} {d0 : Delta} (hf : E.fn f = some fn) (hb : fn.body = some c) (hl : args.length ≤ fn.ntmps) (h : CR P E fn.ntmps c (init args) n σ x τ' n' d0) (hx : x = .normal ∨ x = .ret) (hres : resL E τ' (app d0 σ) fn.results.toList = some vs) (hless : Less n n' d0 d) : SC P E.den f args n σ (one vs) n' d := by
  obtain ⟨hP, hname⟩ := hE.fn f fn hf
  refine ⟨fun as w => ?_, hless.keysOk h.keys, ?_⟩
  · unfold callFunc
    simp only [Sem.run_bind, run_program, Result.andThen_ok, hP, hname, Bool.false_eq_true, if_false, hb, Option.isNone_some, Sem.run_pure]
  · intro N w0 σ2 ι w args' R hs hR hargs hfr hK
    refine calls_of_wp hP hb ?_
    have hl' : args'.length ≤ fn.ntmps := by rw [← hargs.length]; exact hl
    refine (h.run N w0 σ2 ι w { tmps := ⟨args'⟩ ++ Array.replicate (fn.ntmps - args'.length) undef, defers := [] } _ hs hR (hargs.init _) ?_ rfl hfr fun κ w' a' hend hT hm hdf => ?_).wp
    · simp; omega
    · obtain ⟨v', h1, h2⟩ := results_run hE (hs.app d0) hend.2.2 hT hres
      have := hK κ w' v' ⟨hend.1, hend.2.1, hless.rel (rel_fresh hR hfr) hend.2.2⟩ h2
      rcases hx with rfl | rfl <;> exact ⟨hdf, v', h1, this⟩

/-! ### With what is asked behind it -/
abbrev Post := AX → Tm → Nat → Delta → Prop
def RQ (P : Program) (E : Env) (m : Nat) (c : Code) (τ : Tm) (n : Nat) (σ : Store) (Q : Post) : Prop := ∃ x τ' n' d, CR P E m c τ n σ x τ' n' d ∧ Q x τ' n' d
def CQ (P : Program) (D : Den) (f : Nat) (args : List Value) (n : Nat) (σ : Store) (Q : Value → Nat → Delta → Prop) : Prop := ∃ v n' d, SC P D f args n σ v n' d ∧ Q v n' d
def OQ (P : Program) (E : Env) (m : Nat) (ops : Array Oper) (l : List Oper) (τ : Tm) (n : Nat) (σ : Store) (Q : Tm → Nat → Delta → Prop) : Prop := ∃ τ' n' d, Ops E (SC P E.den) ops m l τ n σ τ' n' d ∧ Q τ' n' d
variable {Q R : Post}
theorem RQ.imp (h : RQ P E m c τ n σ Q) (hQ : ∀ x τ' n' d, Q x τ' n' d → R x τ' n' d) : RQ P E m c τ n σ R := by
  obtain ⟨x, τ', n', d, h1, h2⟩ := h
  exact ⟨x, τ', n', d, h1, hQ _ _ _ _ h2⟩
theorem RQ.mono {σ2 : Store} (hs : Sub σ σ2) (h : RQ P E m c τ n σ Q) : RQ P E m c τ n σ2 Q := by
  obtain ⟨x, τ', n', d, h1, h2⟩ := h
  exact ⟨x, τ', n', d, h1.mono hs, h2⟩
theorem RQ.less (h : RQ P E m c τ n σ (fun x τ' n' d0 => ∃ d, Less n n' d0 d ∧ Q x τ' n' d)) : RQ P E m c τ n σ Q := by
  obtain ⟨x, τ', n', d0, h1, d, h2, h3⟩ := h
  exact ⟨x, τ', n', d, h1.less h2, h3⟩
theorem RQ.skip (hE : EnvOk P E) (h : Q .normal τ n []) : RQ P E m .skip τ n σ Q := ⟨_, _, _, _, .of_run hE .skip, h⟩
theorem RQ.exit (hE : EnvOk P E) {i : Nat} (h : Q (.exit i) τ n []) : RQ P E m (.exit i) τ n σ Q := ⟨_, _, _, _, .of_run hE .exit, h⟩
theorem RQ.ret (hE : EnvOk P E) (h : Q .ret τ n []) : RQ P E m .ret τ n σ Q := ⟨_, _, _, _, .of_run hE .ret, h⟩
theorem RQ.region (hE : EnvOk P E) {id : Nat} {ops : Array Oper} (h : OQ P E m ops ops.toList τ n σ (fun τ' n' d => Q .normal τ' n' d)) : RQ P E m (.region id ops false) τ n σ Q := by
  obtain ⟨τ', n', d, h1, h2⟩ := h
  exact ⟨_, _, _, _, .of_run hE (.region h1), h2⟩
theorem RQ.seq (h : RQ P E m a τ n σ (fun x τ1 n1 d1 => match x with
    | .normal => RQ P E m b τ1 n1 (app d1 σ) (fun x τ' n' d2 => Q x τ' n' (d2 ++ d1))
    | x => Q x τ1 n1 d1)) : RQ P E m (.seq a b) τ n σ Q := by
  obtain ⟨x, τ1, n1, d1, h1, h2⟩ := h
  cases x with
  | normal =>
    obtain ⟨x, τ', n', d2, h3, h4⟩ := h2
    exact ⟨_, _, _, _, h1.seqN h3, h4⟩
  | exit i => exact ⟨_, _, _, _, h1.seqX (by simp), h2⟩
  | ret => exact ⟨_, _, _, _, h1.seqX (by simp), h2⟩
theorem RQ.cond {o : Operand} {t : Bool} (hc : args1 τ o = some (.bool t)) (h1 : t = true → RQ P E m a τ n σ Q) (h2 : t = false → RQ P E m b τ n σ Q) : RQ P E m (.cond o a b) τ n σ Q := by
  cases t with
  | true => obtain ⟨x, τ', n', d, k1, k2⟩ := h1 rfl; exact ⟨x, τ', n', d, .cond hc k1, k2⟩
  | false => obtain ⟨x, τ', n', d, k1, k2⟩ := h2 rfl; exact ⟨x, τ', n', d, .cond hc k1, k2⟩
theorem RQ.block {id : Nat} (h : RQ P E m c τ n σ (fun x τ' n' d => Q (x.inBlock id) τ' n' d)) : RQ P E m (.block id c) τ n σ Q := by
  obtain ⟨x, τ', n', d, h1, h2⟩ := h
  exact ⟨_, _, _, _, .block h1, h2⟩
theorem app_mem {d0 d : Delta} {n n' : Nat} (h : Less n n' d0 d) {i : Nat} (hi : i ∈ keys d) (σ : Store) : app d σ i = app d0 σ i := (h.sub i hi).2 σ
/-- Nothing stands from here on. -/
def Dom (n : Nat) (σ : Store) : Prop := ∀ i, n ≤ i → σ i = none
theorem Dom.lt {n i : Nat} {σ : Store} {o : AObj} (h : Dom n σ) (hi : σ i = some o) : i < n := by
  rcases Nat.lt_or_ge i n with h1 | h1
  · exact h1
  · rw [h i h1] at hi; cases hi
theorem Dom.app {n n' : Nat} {σ : Store} {d : Delta} (h : Dom n σ) (hk : KeysOk n n' σ d) : Dom n' (app d σ) := by
  intro i hi
  have : i ∉ keys d := fun hm => by
    rcases hk.2 i hm with h1 | h1
    · have h0 := hk.1
      rw [h i (by omega)] at h1; cases h1
    · omega
  rw [app_off this]
  have h0 := hk.1
  exact h i (by omega)
theorem Less.subApp {d0 d : Delta} {n n' : Nat} {σ : Store} (h : Less n n' d0 d) (hd : Dom n σ) : Sub (app d σ) (app d0 σ) := by
  intro i o e
  by_cases hi : i ∈ Go.Proofs.YtgajcmanompmcaaV.keys d
  · rw [← app_mem h hi]; exact e
  · rw [app_off hi] at e
    have : i ∉ Go.Proofs.YtgajcmanompmcaaV.keys d0 := fun hm => (h.gone i hm).elim hi fun h1 => by rw [hd i h1.1] at e; cases e
    rw [app_off this]; exact e
theorem Less.step {n0 n1 n' : Nat} {d d'' d3 e : Delta} (h1 : Less n0 n1 d d'') (h2 : Less n0 n' (e ++ d'') d3) (hn : n1 ≤ n') : Less n0 n' (e ++ d) d3 := by
  refine ⟨fun x hx => ?_, fun x hx => ?_⟩
  · obtain ⟨k1, k2⟩ := h2.sub x hx
    rw [keys_append, List.mem_append] at k1
    by_cases he : x ∈ Go.Proofs.YtgajcmanompmcaaV.keys e
    · exact ⟨by rw [keys_append, List.mem_append]; exact .inl he, fun τ => by rw [k2, app_append, app_append]; exact app_on he⟩
    · have hd := k1.resolve_left he
      obtain ⟨g1, g2⟩ := h1.sub x hd
      exact ⟨by rw [keys_append, List.mem_append]; exact .inr g1, fun τ => by rw [k2, app_append, app_append, app_off he, app_off he, g2]⟩
  · rw [keys_append, List.mem_append] at hx
    rcases hx with hx | hx
    · exact h2.gone x (by rw [keys_append, List.mem_append]; exact .inl hx)
    · rcases h1.gone x hx with h | h
      · exact h2.gone x (by rw [keys_append, List.mem_append]; exact .inr h)
      · exact .inr (by omega)
theorem RQ.loop_aux {n0 : Nat} (hd0 : Dom n0 σ) (I : Nat → Tm → Nat → Delta → Prop)
    (h : ∀ k τ n d, I k τ n d → n0 ≤ n → RQ P E m c τ n (Go.Proofs.YtgajcmanompmcaaV.app d σ) (fun x τ' n' d' => match x with
      | .normal => ∃ k', k' < k ∧ ∃ d'', Less n0 n' (d' ++ d) d'' ∧ I k' τ' n' d''
      | .exit i => ∃ d'', Less n0 n' (d' ++ d) d'' ∧ Q (.exit i) τ' n' d''
      | .ret => ∃ d'', Less n0 n' (d' ++ d) d'' ∧ Q .ret τ' n' d'')) :
    ∀ k τ n d, I k τ n d → n0 ≤ n → ∃ x τ' n' e, CR P E m (.loop c) τ n (Go.Proofs.YtgajcmanompmcaaV.app d σ) x τ' n' e ∧ ∃ d'', Less n0 n' (e ++ d) d'' ∧ Q x τ' n' d'' := by
  intro k
  induction k using Nat.strongRecOn with
  | _ k ih =>
    intro τ n d hI hn
    obtain ⟨x, τ1, n1, d1, h1, h2⟩ := h k τ n d hI hn
    have b1 := h1.keys.1
    cases x with
    | normal =>
      obtain ⟨k', hk, d'', hl, hI'⟩ := h2
      obtain ⟨x, τ', n', e, g1, d3, g2, g3⟩ := ih k' hk τ1 n1 d'' hI' (by omega)
      have b2 := g1.keys.1
      have hs : Sub (Go.Proofs.YtgajcmanompmcaaV.app d'' σ) (Go.Proofs.YtgajcmanompmcaaV.app d1 (Go.Proofs.YtgajcmanompmcaaV.app d σ)) := by rw [← app_append]; exact hl.subApp hd0
      refine ⟨x, τ', n', _, h1.loopN (g1.mono hs), d3, ?_, g3⟩
      rw [List.append_assoc]
      exact hl.step g2 b2
    | exit i =>
      obtain ⟨d'', hl, hq⟩ := h2
      exact ⟨_, _, _, _, h1.loopX (by simp), d'', hl, hq⟩
    | ret =>
      obtain ⟨d'', hl, hq⟩ := h2
      exact ⟨_, _, _, _, h1.loopX (by simp), d'', hl, hq⟩
/-- A loop, by what stays true of it: 'I k' with a number that gets less each round, and what is written so far. -/
theorem RQ.loop (hd0 : Dom n σ) (I : Nat → Tm → Nat → Delta → Prop) (k0 : Nat) (h0 : I k0 τ n [])
    (h : ∀ k τ' n' d, I k τ' n' d → n ≤ n' → RQ P E m c τ' n' (Go.Proofs.YtgajcmanompmcaaV.app d σ) (fun x τ2 n2 d' => match x with
      | .normal => ∃ k', k' < k ∧ ∃ d'', Less n n2 (d' ++ d) d'' ∧ I k' τ2 n2 d''
      | .exit i => ∃ d'', Less n n2 (d' ++ d) d'' ∧ Q (.exit i) τ2 n2 d''
      | .ret => ∃ d'', Less n n2 (d' ++ d) d'' ∧ Q .ret τ2 n2 d'')) : RQ P E m (.loop c) τ n σ Q := by
  obtain ⟨x, τ', n', e, g1, d3, g2, g3⟩ := RQ.loop_aux hd0 I h k0 τ n [] h0 (Nat.le_refl _)
  rw [List.append_nil] at g2
  exact ⟨x, τ', n', d3, g1.less g2, g3⟩
theorem CQ.of_body (hE : EnvOk P E) {f : Nat} {fn : Func} {args : List Value} {Q : Value → Nat → Delta → Prop} (hf : E.fn f = some fn) (hb : fn.body = some c) (hl : args.length ≤ fn.ntmps)
    (h : RQ P E fn.ntmps c (init args) n σ (fun x τ' n' d0 => (x = .normal ∨ x = .ret) ∧ ∃ vs, resL E τ' (Go.Proofs.YtgajcmanompmcaaV.app d0 σ) fn.results.toList = some vs ∧ ∃ d, Less n n' d0 d ∧ Q (one vs) n' d)) : CQ P E.den f args n σ Q := by
  obtain ⟨x, τ', n', d0, h1, hx, vs, hr, d, hl2, hq⟩ := h
  exact ⟨_, _, _, .of_body hE hf hb hl h1 hx hr hl2, hq⟩
theorem CQ.imp {D : Den} {f : Nat} {args : List Value} {Q R : Value → Nat → Delta → Prop} (h : CQ P D f args n σ Q) (hQ : ∀ v n' d, Q v n' d → R v n' d) : CQ P D f args n σ R := by
  obtain ⟨v, n', d, h1, h2⟩ := h
  exact ⟨v, n', d, h1, hQ _ _ _ h2⟩
theorem CQ.mono {D : Den} {σ2 : Store} {f : Nat} {args : List Value} {Q : Value → Nat → Delta → Prop} (hs : Sub σ σ2) (h : CQ P D f args n σ Q) : CQ P D f args n σ2 Q := by
  obtain ⟨v, n', d, h1, h2⟩ := h
  exact ⟨v, n', d, h1.mono hs, h2⟩
theorem CQ.keys {D : Den} {f : Nat} {args : List Value} {Q : Value → Nat → Delta → Prop} (h : CQ P D f args n σ Q) : CQ P D f args n σ (fun v n' d => KeysOk n n' σ d ∧ Q v n' d) := by
  obtain ⟨v, n', d, h1, h2⟩ := h
  exact ⟨v, n', d, h1, h1.2.1, h2⟩

/-! ### Operations -/
variable {ops : Array Oper} {o : Oper} {rest : List Oper} {K : Tm → Nat → Delta → Prop} {v : Value}
theorem OQ.nil (h : K τ n []) : OQ P E m ops [] τ n σ K := ⟨_, _, _, .nil, h⟩
variable {dst : Option Nat}
theorem OQ.pure (hw : wantA ops τ o = true) (hd : dstOk m o = true) (hdst : o.dst = dst) (hs : (aop E τ o).run n σ = some (v, n, [])) (h : OQ P E m ops rest (upd τ dst v) n σ K) : OQ P E m ops (o :: rest) τ n σ K := by
  subst hdst
  obtain ⟨τ', n', d, h1, h2⟩ := h
  exact ⟨τ', n', _, .on hw hd (.op hs) h1, by rw [List.append_nil]; exact h2⟩
theorem OQ.op (hw : wantA ops τ o = true) (hd : dstOk m o = true) (hdst : o.dst = dst) (hs : (aop E τ o).run n σ = some (v, n1, d1)) (h : OQ P E m ops rest (upd τ dst v) n1 (Go.Proofs.YtgajcmanompmcaaV.app d1 σ) (fun τ' n' d2 => K τ' n' (d2 ++ d1))) : OQ P E m ops (o :: rest) τ n σ K := by
  subst hdst
  obtain ⟨τ', n', d, h1, h2⟩ := h
  exact ⟨τ', n', _, .on hw hd (.op hs) h1, h2⟩
theorem OQ.off (hw : wantA ops τ o = false) (hd : dstOk m o = true) (hdst : o.dst = dst) (h : OQ P E m ops rest (upd τ dst undef) n σ K) : OQ P E m ops (o :: rest) τ n σ K := by
  subst hdst
  obtain ⟨τ', n', d, h1, h2⟩ := h
  exact ⟨τ', n', _, .off hw hd h1, h2⟩
theorem OQ.call {cl : Call} {fo : Operand} {g : Nat} {first cap : Array Value} {as all : List Value} (hw : wantA ops τ o = true) (hd : dstOk m o = true) (hdst : o.dst = dst) (ho : o.op = .call cl) (hc : cl.callee = .value fo) (hf : args1 τ fo = some (.func (.func g) first cap)) (ha : evL τ cl.args.toList = some as) (hall : first.toList ++ as ++ cap.toList = all)
    (h : CQ P E.den g all n σ (fun v n1 d1 => OQ P E m ops rest (upd τ dst v) n1 (Go.Proofs.YtgajcmanompmcaaV.app d1 σ) (fun τ' n' d2 => K τ' n' (d2 ++ d1)))) : OQ P E m ops (o :: rest) τ n σ K := by
  subst hdst
  subst hall
  obtain ⟨v, n1, d1, hs, τ', n', d, h1, h2⟩ := h
  exact ⟨τ', n', _, .on hw hd (.call ho hc hf ha hs) h1, h2⟩
theorem OQ.imp {K' : Tm → Nat → Delta → Prop} {l : List Oper} (h : OQ P E m ops l τ n σ K) (hK : ∀ τ' n' d, K τ' n' d → K' τ' n' d) : OQ P E m ops l τ n σ K' := by
  obtain ⟨τ', n', d, h1, h2⟩ := h
  exact ⟨τ', n', d, h1, hK _ _ _ h2⟩
theorem run_get {i : Nat} {k : AObj → T} {ob : AObj} {r : Option (Value × Nat × Delta)} (h : σ i = some ob) (hk : (k ob).run n σ = r) : (T.get i k).run n σ = r := by
  rw [← hk]; simp only [T.run, h]
end
/-- What temporaries hold. -/
def Has (τ : Tm) : List (Nat × Value) → Prop
  | [] => True
  | (t, v) :: r => τ t = v ∧ Has τ r
def upds (τ : Tm) : List (Nat × Value) → Tm
  | [] => τ
  | (t, v) :: r => upd (upds τ r) (some t) v
theorem upd_self {τ : Tm} {t : Nat} {v : Value} (h : τ t = v) : upd τ (some t) v = τ := by
  funext s
  simp only [upd]
  split
  · rename_i e; rw [e, h]
  · rfl
theorem Has.eq {τ : Tm} : ∀ {l : List (Nat × Value)}, Has τ l → τ = upds τ l
  | [], _ => rfl
  | (t, v) :: r, h => by
    show τ = upd (upds τ r) (some t) v
    rw [← Has.eq h.2, upd_self h.1]
end Go.Proofs.YtgajcmanompmcaaV
