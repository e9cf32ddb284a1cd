/- Part 3 of the texts that prove FilerNone: the abstract machine, its calculus, and walks through functions; joined by a program of this workplace. -/
import Derived.Test.YtdiofapingdlmaaZFilerNone2
/- The abstract machine: short forms of the calculus' steps (for texts that must be short). -/
set_option linter.unusedVariables false
set_option linter.unusedSimpArgs false
namespace Go.Proofs.YtdiofapingdlmaaV
open Go Go.RowKit
abbrev yT : Value := .bool true
abbrev yF : Value := .bool false
/-- The temporaries from 'a' on, 'k' of them, hold nothing. -/
def undT (a k : Nat) (τ : Tm) : Tm := fun t => bif Nat.ble a t && Nat.blt t (a + k) then undef else τ t
def offsR (ops : Array Oper) (m : Nat) : Nat → Nat → List Oper → Tm → Option (List Oper)
  | _, 0, l, _ => some l
  | a, k + 1, o :: l, τ => bif !wantA ops τ o && dstOk m o && (match o.dst with | some b => Nat.beq a b | none => false) then offsR ops m (a + 1) k l (upd τ (some a) undef) else none
  | _, _ + 1, [], _ => none
theorem undT_upd (a k : Nat) (τ : Tm) : undT (a + 1) k (upd τ (some a) undef) = undT a (k + 1) τ := by
  funext t
  unfold undT
  by_cases h : t = a
  · subst h
    have h1 : (Nat.ble (t + 1) t && Nat.blt t (t + 1 + k)) = false := by
      have : Nat.ble (t + 1) t = false := by rw [← Bool.not_eq_true, Nat.ble_eq]; omega
      rw [this]; rfl
    have h2 : (Nat.ble t t && Nat.blt t (t + (k + 1))) = true := by
      rw [Bool.and_eq_true]; exact ⟨by rw [Nat.ble_eq]; omega, by unfold Nat.blt; rw [Nat.ble_eq]; omega⟩
    rw [h1, h2]
    simp [upd]
  · have h1 : (Nat.ble (a + 1) t && Nat.blt t (a + 1 + k)) = (Nat.ble a t && Nat.blt t (a + (k + 1))) := by
      rw [Bool.eq_iff_iff, Bool.and_eq_true, Bool.and_eq_true]
      unfold Nat.blt
      rw [Nat.ble_eq, Nat.ble_eq, Nat.ble_eq, Nat.ble_eq]
      omega
    rw [h1]
    cases hb : (Nat.ble a t && Nat.blt t (a + (k + 1))) with
    | true => rfl
    | false => simp [upd, h]
/-- What pure operations give, each with the values of those ahead of it. -/
def tr (E : Env) (ops : Array Oper) (m n : Nat) (σ : Store) : List (Nat × Value) → List Oper → Tm → List (Bool × Bool × Option Nat × Option (Value × Nat × Delta))
  | (t, v) :: q, o :: l, τ => (wantA ops τ o, dstOk m o, o.dst, (aop E τ o).run n σ) :: tr E ops m n σ q l (upd τ (some t) v)
  | _, _, _ => []
def ex (n : Nat) (q : List (Nat × Value)) : List (Bool × Bool × Option Nat × Option (Value × Nat × Delta)) := q.map fun p => (true, true, some p.1, some (p.2, n, []))
def updL (τ : Tm) : List (Nat × Value) → Tm
  | [] => τ
  | (t, v) :: q => updL (upd τ (some t) v) q
abbrev tri (ops : Array Oper) (m : Nat) (τ : Tm) (o : Oper) (t : Nat) : Prop := (wantA ops τ o, dstOk m o, o.dst) = (true, true, some t)
def callOf (τ : Tm) (o : Oper) : Option (Nat × List Value) := match o.op with
  | .call cl => match cl.callee with
    | .value fo => match args1 τ fo with
      | some (.func (.func g) first cap) => match evL τ cl.args.toList with
        | some as => some (g, first.toList ++ as ++ cap.toList)
        | none => none
      | _ => none
    | _ => none
  | _ => none
theorem callOf_at {τ : Tm} {o : Oper} {g : Nat} {all : List Value} (h : callOf τ o = some (g, all)) : ∃ cl fo first cap as, o.op = .call cl ∧ cl.callee = .value fo ∧ args1 τ fo = some (.func (.func g) first cap) ∧ evL τ cl.args.toList = some as ∧ first.toList ++ as ++ cap.toList = all := by
  unfold callOf at h
  split at h
  · rename_i cl h1
    split at h
    · rename_i fo h2
      split at h
      · rename_i g' first cap h3
        split at h
        · rename_i as h4
          cases h
          exact ⟨cl, fo, first, cap, as, h1, h2, h3, h4, rfl⟩
        · cases h
      · cases h
    · cases h
  · cases h
section
variable {P : Program} {E : Env} {m nb : Nat} {md : List (Option (List Nat))} {ops : Array Oper} {σ : Store} {τ : Tm} {n : Nat} {D : Delta} {K : Tm → Nat → Delta → Prop} {r l : List Oper} {o : Oper} {v : Value} {Ds : List Delta}
theorem OA.offs (a k : Nat) (h : offsR ops m a k l τ = some r) (H : OA P E m ops σ r (undT a k τ) n D K) : OA P E m ops σ l τ n D K := by
  induction k generalizing a l τ with
  | zero =>
    simp only [offsR, Option.some.injEq] at h
    subst h
    have e : undT a 0 τ = τ := by
      funext t; unfold undT
      have : (Nat.ble a t && Nat.blt t (a + 0)) = false := by
        rw [← Bool.not_eq_true, Bool.and_eq_true]; unfold Nat.blt; rw [Nat.ble_eq, Nat.ble_eq]; omega
      rw [this]; rfl
    rw [e] at H; exact H
  | succ k ih =>
    cases l with
    | nil => simp [offsR] at h
    | cons o l =>
      simp only [offsR] at h
      cases hb : (!wantA ops τ o && dstOk m o && (match o.dst with | some b => Nat.beq a b | none => false)) with
      | false => rw [hb] at h; cases h
      | true =>
        rw [hb] at h
        simp only [Bool.and_eq_true, Bool.not_eq_true'] at hb
        obtain ⟨⟨h1, h2⟩, h3⟩ := hb
        have h4 : o.dst = some a := by
          split at h3
          · rename_i b e; rw [e, Nat.eq_of_beq_eq_true h3]
          · cases h3
        rw [← undT_upd] at H
        exact OA.off h1 h2 h4 (ih (a + 1) h H)
theorem tri.of {t : Nat} (h : tri ops m τ o t) : wantA ops τ o = true ∧ dstOk m o = true ∧ o.dst = some t := by
  have h1 := congrArg Prod.fst h
  have h2 := congrArg Prod.snd h
  exact ⟨h1, congrArg Prod.fst h2, congrArg Prod.snd h2⟩
theorem OA.ps (q : List (Nat × Value)) (h : tr E ops m n (app D σ) q l τ = ex n q) (H : OA P E m ops σ (l.drop q.length) (updL τ q) n D K) : OA P E m ops σ l τ n D K := by
  induction q generalizing l τ with
  | nil => exact H
  | cons p q ih =>
    obtain ⟨t, v⟩ := p
    cases l with
    | nil => simp [tr, ex] at h
    | cons o l =>
      simp only [tr, ex, List.map_cons, List.cons.injEq, Prod.mk.injEq] at h
      obtain ⟨⟨h1, h2, h3, h4⟩, h5⟩ := h
      exact OA.pure h1 h2 h3 h4 (ih h5 H)
theorem oP (t : Nat) (v : Value) (h : tri ops m τ o t) (hs : (aop E τ o).run n (app D σ) = some (v, n, [])) (H : OA P E m ops σ r (upd τ (some t) v) n D K) : OA P E m ops σ (o :: r) τ n D K := OA.pure h.of.1 h.of.2.1 h.of.2.2 hs H
theorem oC (t : Nat) {g : Nat} {all : List Value} (hdom : Dom n (app D σ)) (h : tri ops m τ o t) (hc : callOf τ o = some (g, all)) (hp : PS P E.den g all (app D σ) v) (H : ∀ n1, n ≤ n1 → OA P E m ops σ r (upd τ (some t) v) n1 D K) : OA P E m ops σ (o :: r) τ n D K := by
  obtain ⟨cl, fo, first, cap, as, h1, h2, h3, h4, h5⟩ := callOf_at hc
  exact OA.callP hdom h.of.1 h.of.2.1 h.of.2.2 h1 h2 h3 h4 h5 hp H
theorem PQ.offs (a k : Nat) (h : offsR ops m a k l τ = some r) (H : PQ P E m ops nb md σ K r (undT a k τ) n (Ds ++ List.replicate k [])) : PQ P E m ops nb md σ K l τ n Ds := by
  induction k generalizing a l τ Ds with
  | zero =>
    simp only [offsR, Option.some.injEq] at h
    subst h
    have e : undT a 0 τ = τ := by
      funext t; unfold undT
      have : (Nat.ble a t && Nat.blt t (a + 0)) = false := by
        rw [← Bool.not_eq_true, Bool.and_eq_true]; unfold Nat.blt; rw [Nat.ble_eq, Nat.ble_eq]; omega
      rw [this]; rfl
    rw [e, List.replicate_zero, List.append_nil] at H; exact H
  | succ k ih =>
    cases l with
    | nil => simp [offsR] at h
    | cons o l =>
      simp only [offsR] at h
      cases hb : (!wantA ops τ o && dstOk m o && (match o.dst with | some b => Nat.beq a b | none => false)) with
      | false => rw [hb] at h; cases h
      | true =>
        rw [hb] at h
        simp only [Bool.and_eq_true, Bool.not_eq_true'] at hb
        obtain ⟨⟨h1, h2⟩, h3⟩ := hb
        have h4 : o.dst = some a := by
          split at h3
          · rename_i b e; rw [e, Nat.eq_of_beq_eq_true h3]
          · cases h3
        rw [← undT_upd, List.replicate_succ, show Ds ++ ([] :: List.replicate k ([] : Delta)) = (Ds ++ [[]]) ++ List.replicate k [] from by rw [List.append_assoc]; rfl] at H
        exact PQ.off h1 h2 h4 (ih (a + 1) h H)
theorem PQ.ps (q : List (Nat × Value)) (h : tr E ops m n noStore q l τ = ex n q) (H : PQ P E m ops nb md σ K (l.drop q.length) (updL τ q) n (Ds ++ List.replicate q.length [])) : PQ P E m ops nb md σ K l τ n Ds := by
  induction q generalizing l τ Ds with
  | nil => rw [List.length_nil, List.replicate_zero, List.append_nil] at H; exact H
  | cons p q ih =>
    obtain ⟨t, v⟩ := p
    cases l with
    | nil => simp [tr, ex] at h
    | cons o l =>
      simp only [tr, ex, List.map_cons, List.cons.injEq, Prod.mk.injEq] at h
      obtain ⟨⟨h1, h2, h3, h4⟩, h5⟩ := h
      rw [List.length_cons, List.replicate_succ, show Ds ++ ([] :: List.replicate q.length ([] : Delta)) = (Ds ++ [[]]) ++ List.replicate q.length [] from by rw [List.append_assoc]; rfl] at H
      exact PQ.pure h1 h2 h3 noStore ⟨Sub.none _, fun _ _ y q h => by cases h⟩ h4 (ih h5 H)
omit P in
theorem s1 {V : Delta} {k : Nat} {ob : AObj} (hv : selD (fun i => Ds.getD i []) (fun i => (B ops Ds.length).contains i) Ds.length = V) (hmd : md.getD Ds.length none = some [k]) (hk : app (V ++ D) σ k = some ob) : Sub (app [(k, some ob)] noStore) (seenBy ops Ds (app D σ)) ∧ ∀ R, md.getD Ds.length none = some R → ∀ y q, app [(k, some ob)] noStore y = some q → y ∈ R := by rw [hmd]; exact seen_one hv hk
theorem rG {i : Nat} {k : AObj → T} {ob : AObj} (hσ : σ i = some ob) (hT : aop E τ o = T.get i k) (hf : (k ob).run n σ = some (v, n, [])) : (aop E τ o).run n σ = some (v, n, []) := by
  rw [hT]; exact run_get hσ hf
/-- A region whose order is the text's, and what stands behind it. -/
theorem RA.sR {b : Nat} {Q : Post} {c' : Code} {id : Nat} (hd : Dom b σ) (hE : EnvOk P E) (h : OA P E m ops σ ops.toList τ n D (fun τ' n' D' => n ≤ n' → RA P E b σ m c' τ' n' D' Q)) : RA P E b σ m (.seq (.region id ops false) c') τ n D Q := RA.seq hd (RA.region hE h)
theorem rbL : ∀ (l : List (Nat × Value)), l.map (fun p => τ p.1) = l.map (·.2) → Has τ l
  | [], _ => trivial
  | (t, v) :: l, h => by
    simp only [List.map_cons, List.cons.injEq] at h
    exact ⟨h.1, rbL l h.2⟩
theorem RA.rb {b : Nat} {Q : Post} {c : Code} (l : List (Nat × Value)) (h : l.map (fun p => τ p.1) = l.map (·.2)) (H : ∀ τ0, RA P E b σ m c (upds τ0 l) n D Q) : RA P E b σ m c τ n D Q := RA.rebase l (rbL l h) H
theorem o1 (dst : Option Nat) (v : Value) (n1 : Nat) (w : Nat × Option AObj) (hs : (aop E τ o).run n (app D σ) = some (v, n1, [w])) (H : OA P E m ops σ r (upd τ dst v) n1 (w :: D) K) (h : (wantA ops τ o, dstOk m o, o.dst) = (true, true, dst) := by rfl) (hn : n ≤ n1 := by omega) : OA P E m ops σ (o :: r) τ n D K := by
  have h1 := congrArg Prod.fst h
  have h2 := congrArg Prod.snd h
  exact OA.op1 h1 (congrArg Prod.fst h2) (congrArg Prod.snd h2) hs hn H
/-- Lines that load. -/
theorem oL (t : Nat) (v : Value) {i : Nat} {ob : AObj} {k : AObj → T} (hk : app D σ i = some ob) (H : OA P E m ops σ r (upd τ (some t) v) n D K) (h : tri ops m τ o t := by rfl) (hT : aop E τ o = T.get i k := by rfl) (hf : (k ob).run n (app D σ) = some (v, n, []) := by rfl) : OA P E m ops σ (o :: r) τ n D K := oP t v h (rG hk hT hf) H
end
theorem LsO {n n' : Nat} {d0 d : Delta} (h1 : ∀ p ∈ d, p.1 ∈ keys d0 ∧ ∀ τ : Store, app d τ p.1 = app d0 τ p.1) (h2 : goneP n n' d d0 := by simp only [goneP, memP, List.cons_append, List.nil_append, true_or, or_true, true_and, and_true, or_false] <;> omega) : Less n n' d0 d := Less.of h1 (gone_of h2)
theorem fA {nd D : Delta} {k : Nat} {o : Option AObj} {l : Delta} (A : ∀ {τ : Store}, app nd τ k = o) (B : ∀ {τ : Store}, app D τ k = o) (hl : ∀ p ∈ l, p.1 ∈ keys D ∧ ∀ τ : Store, app nd τ p.1 = app D τ p.1) : ∀ p ∈ (k, o) :: l, p.1 ∈ keys D ∧ ∀ τ : Store, app nd τ p.1 = app D τ p.1 := fac (mm (fun _ => A) (fun _ => B)) hl
section
variable {n : Nat} {p0 p1 p2 p3 p4 p5 p6 p7 : Option AObj} {a0 a1 a2 a3 a4 a5 a6 a7 : Nat} {r : Delta}
theorem kk0 (h : ∀ i ∈ keys ((a0, p0) :: r), i < n) : a0 < n := h _ (by simp [keys])
end
/-- A leaf of a call that changes nothing. -/
theorem lf {E : Env} {x : AX} {τ' : Tm} {σ : Store} {D : Delta} {n n' : Nat} {r : List ResultVar} {v : Value} (v0 : Value) (h : one [v0] = v) (hx : x = .normal ∨ x = .ret := by first | exact .inr rfl | exact .inl rfl) (hr : resL E τ' (app D σ) r = some [v0] := by exact resL_cons rfl resL_nil) (hk : ∀ i ∈ keys D, n ≤ i ∧ i < n' := by intro i_ hi_; simp only [keys, List.cons_append, List.nil_append, List.map_cons, List.map_nil, List.mem_cons, List.not_mem_nil, or_false] at hi_ <;> omega) : (x = .normal ∨ x = .ret) ∧ ∃ vs, resL E τ' (app D σ) r = some vs ∧ one vs = v ∧ ∀ i ∈ keys D, n ≤ i ∧ i < n' := ⟨hx, _, hr, h, hk⟩
abbrev yU : Value := .tuple #[]
/-- A store, its side conditions by computation. -/
theorem rS {E : Env} [Plain E] {τ : Tm} {o : Oper} {n : Nat} {σ : Store} {t i m j : Nat} {a x : Operand} {v : Value} {ti : TI} {cs e : List Value} {ob ob' : AObj} (hσ : σ i = some ob) (ho : o.op = .store t a x := by rfl) (ha : args1 τ a = some (.pointer (some ⟨i, m, some j⟩)) := by rfl) (hx : args1 τ x = some v := by rfl) (ht : E.ty t = some ti := by rfl) (hc : cellsL v = cs := by rfl) (hl : cs.length = ti.size := by rfl) (hb : cs.all oneB = true := by rfl) (hw : ob.w = true := by rfl) (he : ob.es[m]? = some e := by rfl) (hj : Nat.ble (j + ti.size) e.length = true := by rfl) (hn : { ob with es := ob.es.set m (ov e j cs) } = ob' := by rfl) : (aop E τ o).run n σ = some (.tuple #[], n, [(i, some ob')]) := r_store ho ha hx ht hc hl hb hσ hw he (Nat.le_of_ble_eq_true hj) hn
end Go.Proofs.YtdiofapingdlmaaV
