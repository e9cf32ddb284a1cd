/- The abstract machine: the calculus, with one list of what was written since the call's begin. -/
import Derived.Test.YtgajcmanompmcaaVmY
set_option linter.unusedVariables false
set_option linter.unusedSimpArgs false
namespace Go.Proofs.YtgajcmanompmcaaV
open Go Go.RowKit

theorem CR.le {P : Program} {E : Env} {m : Nat} {c : Code} {τ τ' : Tm} {n n' : Nat} {σ : Store} {x : AX} {d : Delta} (h : CR P E m c τ n σ x τ' n' d) : n ≤ n' := h.keys.1
/-- Code, from a store of which 'D' was written since number 'b'; told up to what nobody asks for. -/
def RA (P : Program) (E : Env) (b : Nat) (σ : Store) (m : Nat) (c : Code) (τ : Tm) (n : Nat) (D : Delta) (Q : Post) : Prop :=
  ∃ x τ' n' e D', CR P E m c τ n (app D σ) x τ' n' e ∧ Less b n' (e ++ D) D' ∧ Q x τ' n' D'
def OA (P : Program) (E : Env) (m : Nat) (ops : Array Oper) (σ : Store) (l : List Oper) (τ : Tm) (n : Nat) (D : Delta) (K : Tm → Nat → Delta → Prop) : Prop :=
  ∃ τ' n' e, Ops E (SC P E.den) ops m l τ n (app D σ) τ' n' e ∧ n ≤ n' ∧ K τ' n' (e ++ D)
section
variable {P : Program} {E : Env} {b : Nat} {σ : Store} {m : Nat} {τ τ' : Tm} {n n' : Nat} {D D' : Delta} {Q R : Post} {c c' : Code}
theorem RA.of_RQ (h : RQ P E m c τ n (app D σ) (fun x τ' n' e => ∃ D', Less b n' (e ++ D) D' ∧ Q x τ' n' D')) : RA P E b σ m c τ n D Q := by
  obtain ⟨x, τ', n', e, h1, D', h2, h3⟩ := h
  exact ⟨x, τ', n', e, D', h1, h2, h3⟩
theorem RA.imp (h : RA P E b σ m c τ n D Q) (hQ : ∀ x τ' n' D', n ≤ n' → Q x τ' n' D' → R x τ' n' D') : RA P E b σ m c τ n D R := by
  obtain ⟨x, τ', n', e, D', h1, h2, h3⟩ := h
  exact ⟨x, τ', n', e, D', h1, h2, hQ _ _ _ _ h1.le h3⟩
theorem RA.weaken (hd : Dom b σ) (hl : Less b n D D') (h : RA P E b σ m c τ n D' Q) : RA P E b σ m c τ n D Q := by
  obtain ⟨x, τ', n', e, D2, h1, h2, h3⟩ := h
  exact ⟨x, τ', n', e, D2, h1.mono (hl.subApp hd), hl.step h2 h1.le, h3⟩
theorem RA.skip (hE : EnvOk P E) (h : Q .normal τ n D) : RA P E b σ m .skip τ n D Q := ⟨_, _, _, _, _, .of_run hE .skip, Less.refl _ _ _, h⟩
theorem RA.exit (hE : EnvOk P E) {i : Nat} (h : Q (.exit i) τ n D) : RA P E b σ m (.exit i) τ n D Q := ⟨_, _, _, _, _, .of_run hE .exit, Less.refl _ _ _, h⟩
theorem RA.ret (hE : EnvOk P E) (h : Q .ret τ n D) : RA P E b σ m .ret τ n D Q := ⟨_, _, _, _, _, .of_run hE .ret, Less.refl _ _ _, h⟩
theorem RA.region (hE : EnvOk P E) {id : Nat} {ops : Array Oper} (h : OA P E m ops σ ops.toList τ n D (fun τ' n' D' => Q .normal τ' n' D')) : RA P E b σ m (.region id ops false) τ n D Q := by
  obtain ⟨τ', n', e, h1, _, h2⟩ := h
  exact ⟨_, _, _, _, _, .of_run hE (.region h1), Less.refl _ _ _, h2⟩
theorem RA.seq (hd : Dom b σ) (h : RA P E b σ m c τ n D (fun x τ1 n1 D1 => match x with
    | .normal => n ≤ n1 → RA P E b σ m c' τ1 n1 D1 Q
    | .exit i => Q (.exit i) τ1 n1 D1
    | .ret => Q .ret τ1 n1 D1)) : RA P E b σ m (.seq c c') τ n D Q := by
  obtain ⟨x, τ1, n1, e1, D1, h1, h2, h3⟩ := h
  cases x with
  | normal =>
    obtain ⟨x, τ2, n2, e2, D2, g1, g2, g3⟩ := h3 h1.le
    have hs : Sub (app D1 σ) (app e1 (app D σ)) := by rw [← app_append]; exact h2.subApp hd
    refine ⟨x, τ2, n2, _, D2, h1.seqN (g1.mono hs), ?_, g3⟩
    rw [List.append_assoc]
    exact h2.step g2 g1.le
  | exit i => exact ⟨_, _, _, _, _, h1.seqX (by simp), h2, h3⟩
  | ret => exact ⟨_, _, _, _, _, h1.seqX (by simp), h2, h3⟩
theorem RA.cond {o : Operand} {t : Bool} (hc : args1 τ o = some (.bool t)) (h1 : t = true → RA P E b σ m c τ n D Q) (h2 : t = false → RA P E b σ m c' τ n D Q) : RA P E b σ m (.cond o c c') τ n D Q := by
  cases t with
  | true => obtain ⟨x, τ', n', e, D', k1, k2, k3⟩ := h1 rfl; exact ⟨x, τ', n', e, D', .cond hc k1, k2, k3⟩
  | false => obtain ⟨x, τ', n', e, D', k1, k2, k3⟩ := h2 rfl; exact ⟨x, τ', n', e, D', .cond hc k1, k2, k3⟩
theorem RA.block {id : Nat} (h : RA P E b σ m c τ n D (fun x τ' n' D' => Q (x.inBlock id) τ' n' D')) : RA P E b σ m (.block id c) τ n D Q := by
  obtain ⟨x, τ', n', e, D', h1, h2, h3⟩ := h
  exact ⟨_, _, _, _, _, .block h1, h2, h3⟩
theorem Less.trans {n n' : Nat} {d0 d1 d2 : Delta} (h1 : Less n n' d0 d1) (h2 : Less n n' d1 d2) : Less n n' d0 d2 :=
  ⟨fun x hx => by
    obtain ⟨a1, a2⟩ := h2.sub x hx
    obtain ⟨b1, b2⟩ := h1.sub x a1
    exact ⟨b1, fun τ => (a2 τ).trans (b2 τ)⟩, fun x hx => (h1.gone x hx).elim (fun h => h2.gone x h) .inr⟩
theorem RA.loop_aux (hd : Dom b σ) (I : Nat → Tm → Nat → Delta → Prop)
    (h : ∀ k τ n D, I k τ n D → RA P E b σ m c τ n D (fun x τ' n' D' => match x with
      | .normal => ∃ k', k' < k ∧ ∃ D'', Less b n' D' D'' ∧ I k' τ' n' D''
      | .exit i => Q (.exit i) τ' n' D'
      | .ret => Q .ret τ' n' D')) :
    ∀ k τ n D, I k τ n D → RA P E b σ m (.loop c) τ n D Q := by
  intro k
  induction k using Nat.strongRecOn with
  | _ k ih =>
    intro τ n D hI
    obtain ⟨x, τ1, n1, e1, D1, h1, h2, h3⟩ := h k τ n D hI
    cases x with
    | normal =>
      obtain ⟨k', hk, D1', hl', hI'⟩ := h3
      have h2 := h2.trans hl'
      obtain ⟨x, τ2, n2, e2, D2, g1, g2, g3⟩ := ih k' hk τ1 n1 D1' hI'
      have hs : Sub (app D1' σ) (app e1 (app D σ)) := by rw [← app_append]; exact h2.subApp hd
      refine ⟨x, τ2, n2, _, D2, h1.loopN (g1.mono hs), ?_, g3⟩
      rw [List.append_assoc]
      exact h2.step g2 g1.le
    | exit i => exact ⟨_, _, _, _, _, h1.loopX (by simp), h2, h3⟩
    | ret => exact ⟨_, _, _, _, _, h1.loopX (by simp), h2, h3⟩
/-- A loop, by what stays true of it, and a number that gets less each round. -/
theorem RA.loop (hd : Dom b σ) (I : Nat → Tm → Nat → Delta → Prop) (k0 : Nat) (h0 : I k0 τ n D)
    (h : ∀ k τ n D, I k τ n D → RA P E b σ m c τ n D (fun x τ' n' D' => match x with
      | .normal => ∃ k', k' < k ∧ ∃ D'', Less b n' D' D'' ∧ I k' τ' n' D''
      | .exit i => Q (.exit i) τ' n' D'
      | .ret => Q .ret τ' n' D')) : RA P E b σ m (.loop c) τ n D Q := RA.loop_aux hd I h k0 τ n D h0
theorem Less.of {n n' : Nat} {d0 d : Delta} (h1 : ∀ p ∈ d, p.1 ∈ keys d0 ∧ ∀ τ : Store, app d τ p.1 = app d0 τ p.1) (h2 : ∀ x ∈ keys d0, x ∈ keys d ∨ (n ≤ x ∧ x < n')) : Less n n' d0 d := by
  refine ⟨fun x hx => ?_, h2⟩
  simp only [keys, List.mem_map] at hx
  obtain ⟨p, hp, rfl⟩ := hx
  exact h1 p hp
/-- A call, by its function's body. -/
theorem CQ.body (hE : EnvOk P E) {f : Nat} {fn : Func} {args : List Value} {Q : Value → Nat → Delta → Prop} (hd : Dom n σ) (hf : E.fn f = some fn) (hb : fn.body = some c) (hl : args.length ≤ fn.ntmps)
    (h : RA P E n σ fn.ntmps c (init args) n [] (fun x τ' n' D => (x = .normal ∨ x = .ret) ∧ ∃ vs, resL E τ' (app D σ) fn.results.toList = some vs ∧ ∃ d, Less n n' D d ∧ Q (one vs) n' d)) : CQ P E.den f args n σ Q := by
  obtain ⟨x, τ', n', e, D', h1, h2, hx, vs, hr, d, hl2, hq⟩ := h
  rw [List.append_nil] at h2
  exact ⟨_, _, _, .of_body hE hf hb hl (h1.less h2) hx hr hl2, hq⟩
theorem PS.body (hE : EnvOk P E) {f : Nat} {fn : Func} {args : List Value} {v : Value} (hf : E.fn f = some fn) (hb : fn.body = some c) (hl : args.length ≤ fn.ntmps)
    (h : ∀ n, Dom n σ → RA P E n σ fn.ntmps c (init args) n [] (fun x τ' n' D => (x = .normal ∨ x = .ret) ∧ ∃ vs, resL E τ' (app D σ) fn.results.toList = some vs ∧ one vs = v ∧ ∀ i ∈ keys D, n ≤ i ∧ i < n')) : PS P E.den f args σ v := by
  intro n hn
  obtain ⟨x, τ', n', e, D', h1, h2, hx, vs, hr, rfl, hk⟩ := h n hn
  rw [List.append_nil] at h2
  exact ⟨n', h1.le, .of_body hE hf hb hl (h1.less h2) hx hr ⟨fun x hx => by simp [keys] at hx, fun x hx => .inr (hk x hx)⟩⟩
variable {ops : Array Oper} {o : Oper} {r : List Oper} {K : Tm → Nat → Delta → Prop} {v : Value} {dst : Option Nat} {n1 : Nat} {d1 : Delta}
theorem OA.nil (h : K τ n D) : OA P E m ops σ [] τ n D K := ⟨_, _, _, .nil, Nat.le_refl _, h⟩
theorem OA.pure (hw : wantA ops τ o = true) (hd : dstOk m o = true) (hdst : o.dst = dst) (hs : (aop E τ o).run n (app D σ) = some (v, n, [])) (h : OA P E m ops σ r (upd τ dst v) n D K) : OA P E m ops σ (o :: r) τ n D K := by
  subst hdst
  obtain ⟨τ', n', d, h1, h0, h2⟩ := h
  exact ⟨τ', n', _, .on hw hd (.op hs) h1, h0, by rw [List.append_nil]; exact h2⟩
theorem OA.op (hw : wantA ops τ o = true) (hd : dstOk m o = true) (hdst : o.dst = dst) (hs : (aop E τ o).run n (app D σ) = some (v, n1, d1)) (hn : n ≤ n1) (hD : d1 ++ D = D') (h : OA P E m ops σ r (upd τ dst v) n1 D' K) : OA P E m ops σ (o :: r) τ n D K := by
  subst hdst
  subst hD
  obtain ⟨τ', n', d, h1, h0, h2⟩ := h
  rw [app_append] at h1
  exact ⟨τ', n', _, .on hw hd (.op hs) h1, by omega, by rw [List.append_assoc]; exact h2⟩
theorem OA.off (hw : wantA ops τ o = false) (hd : dstOk m o = true) (hdst : o.dst = dst) (h : OA P E m ops σ r (upd τ dst undef) n D K) : OA P E m ops σ (o :: r) τ n D K := by
  subst hdst
  obtain ⟨τ', n', d, h1, h2⟩ := h
  exact ⟨τ', n', _, .off hw hd h1, h2⟩
theorem OA.call {cl : Call} {fo : Operand} {g : Nat} {first cap : Array Value} {as all : List Value} (hw : wantA ops τ o = true) (hd : dstOk m o = true) (hdst : o.dst = dst) (ho : o.op = .call cl) (hc : cl.callee = .value fo) (hf : args1 τ fo = some (.func (.func g) first cap)) (ha : evL τ cl.args.toList = some as) (hall : first.toList ++ as ++ cap.toList = all)
    (h : CQ P E.den g all n (app D σ) (fun v n1 d1 => n ≤ n1 → OA P E m ops σ r (upd τ dst v) n1 (d1 ++ D) K)) : OA P E m ops σ (o :: r) τ n D K := by
  subst hdst
  subst hall
  obtain ⟨v, n1, d1, hs, h0⟩ := h
  have hn := hs.2.1.1
  obtain ⟨τ', n', d, h1, h2, h3⟩ := h0 hn
  rw [app_append] at h1
  exact ⟨τ', n', _, .on hw hd (.call ho hc hf ha hs) h1, by omega, by rw [List.append_assoc]; exact h3⟩
/-- A call that changes nothing. -/
theorem OA.callP {cl : Call} {fo : Operand} {g : Nat} {first cap : Array Value} {as all : List Value} (hdom : Dom n (app D σ)) (hw : wantA ops τ o = true) (hd : dstOk m o = true) (hdst : o.dst = dst) (ho : o.op = .call cl) (hc : cl.callee = .value fo) (hf : args1 τ fo = some (.func (.func g) first cap)) (ha : evL τ cl.args.toList = some as) (hall : first.toList ++ as ++ cap.toList = all)
    (hp : PS P E.den g all (app D σ) v) (h : ∀ n1, n ≤ n1 → OA P E m ops σ r (upd τ dst v) n1 D K) : OA P E m ops σ (o :: r) τ n D K :=
  OA.call hw hd hdst ho hc hf ha hall (CQ.ps hdom hp fun n1 hn hn' => h n1 hn)
theorem RA.par (hE : EnvOk P E) {id : Nat} (hd : Dom n (app D σ)) (hok : parOk ops = true) {md : List (Option (List Nat))} (h : PQ P E m ops n md (app D σ) (fun τ' n' d => Q .normal τ' n' (d ++ D)) ops.toList τ n []) : RA P E b σ m (.region id ops true) τ n D Q :=
  RA.of_RQ ((RQ.par (Q := fun x τ' n' e => x = .normal ∧ Q .normal τ' n' (e ++ D)) hE hd hok (PQ.imp h)).imp fun x τ' n' e ⟨h1, h2⟩ => ⟨_, Less.refl _ _ _, h1 ▸ h2⟩)
where
  PQ.imp {ops : Array Oper} {nb : Nat} {md : List (Option (List Nat))} {σ : Store} {K : Tm → Nat → Delta → Prop} : ∀ {l : List Oper} {τ : Tm} {n : Nat} {Ds : List Delta}, PQ P E m ops nb md σ K l τ n Ds → PQ P E m ops nb md σ (fun τ' n' d => AX.normal = AX.normal ∧ K τ' n' d) l τ n Ds
  | [], _, _, _, h => ⟨rfl, h⟩
  | o :: r, _, _, _, ⟨h1, h2⟩ => ⟨h1, h2.imp (fun ⟨a, v, n1, d1, σj, b1, b2, b3, b4, b5⟩ => ⟨a, v, n1, d1, σj, b1, b2, b3, b4, PQ.imp b5⟩) fun ⟨a, b⟩ => ⟨a, PQ.imp b⟩⟩
theorem PQ.done {nb : Nat} {md : List (Option (List Nat))} {Ds : List Delta} {d : Delta} (hd : selD (fun i => Ds.getD i []) allB Ds.length = d) (h : K τ n d) : PQ P E m ops nb md σ K [] τ n Ds := by
  subst hd; exact h
theorem PQ.callP {nb : Nat} {md : List (Option (List Nat))} {Ds : List Delta} {cl : Call} {fo : Operand} {g : Nat} {first cap : Array Value} {as all : List Value} (σj : Store) (hdom : Dom n σj) (hw : wantA ops τ o = true) (hd : dstOk m o = true) (hdst : o.dst = dst) (ho : o.op = .call cl) (hc : cl.callee = .value fo) (hf : args1 τ fo = some (.func (.func g) first cap)) (ha : evL τ cl.args.toList = some as) (hall : first.toList ++ as ++ cap.toList = all)
    (hj : Sub σj (seenBy ops Ds σ) ∧ (∀ R, md.getD Ds.length none = some R → ∀ y q, σj y = some q → y ∈ R)) (hp : PS P E.den g all σj v) (h : ∀ n1, n ≤ n1 → PQ P E m ops nb md σ K r (upd τ dst v) n1 (Ds ++ [[]])) : PQ P E m ops nb md σ K (o :: r) τ n Ds :=
  PQ.call hw hd hdst ho hc hf ha hall σj hj (CQ.ps hdom hp fun n1 hn => ⟨hn, fun x hx => by simp [keys] at hx, h n1 hn⟩)
/-- All that 'D' names is below 'n'. -/
theorem Dom.of {n0 : Nat} (h : Dom n0 σ) (hn : n0 ≤ n) (hk : ∀ i ∈ keys D, i < n) : Dom n (Go.Proofs.YtgajcmanompmcaaV.app D σ) := by
  intro i hi
  rw [app_off (fun hm => by have := hk i hm; omega)]
  exact h i (by omega)
theorem Has.eq2 {τ : Tm} {l : List (Nat × Value)} (h : Has τ l) : ∃ τ0, τ = upds τ0 l := ⟨τ, h.eq⟩
theorem RA.rebase (l : List (Nat × Value)) (hl : Has τ l) (h : ∀ τ0, RA P E b σ m c (upds τ0 l) n D Q) : RA P E b σ m c τ n D Q := by
  have := h τ
  rw [← hl.eq] at this
  exact this
omit P in
theorem resL_nil : resL E τ σ [] = some [] := rfl
omit P in
theorem resL_cons {r : ResultVar} {l : List ResultVar} {vs : List Value} (h1 : res1 E τ σ r = some v) (h2 : resL E τ σ l = some vs) : resL E τ σ (r :: l) = some (v :: vs) := by simp only [resL, h1, h2]
omit P in
theorem res_cell1 {a t i k j : Nat} {ti : TI} {ob : AObj} {e : List Value} (ha : τ a = .pointer (some ⟨i, k, some j⟩)) (ht : E.ty t = some ti) (hz : ti.size = 1) (hg : isAgg ti.d = false) (hσ : σ i = some ob) (he : ob.es[k]? = some e) (hv : e[j]? = some v) : res1 E τ σ (.cell a t) = some v := by
  have hl : j < e.length := (List.getElem?_eq_some_iff.1 hv).1
  have : (e.drop j).take ti.size = [v] := by
    rw [hz, List.drop_eq_getElem_cons hl, (List.getElem?_eq_some_iff.1 hv).2]
    rfl
  simp only [res1, ha, ht, hσ, he]
  rw [this, hz]
  simp [mkv, hg]
omit P in
theorem res_cellA {a t i k j : Nat} {ti : TI} {ob : AObj} {e cs : List Value} (ha : τ a = .pointer (some ⟨i, k, some j⟩)) (ht : E.ty t = some ti) (hg : isAgg ti.d = true) (hσ : σ i = some ob) (he : ob.es[k]? = some e) (hv : (e.drop j).take ti.size = cs) (hl : cs.length = ti.size) : res1 E τ σ (.cell a t) = some (.agg ⟨cs⟩) := by
  simp only [res1, ha, ht, hσ, he, hv, hl, if_true, mkv, hg]
theorem dom_none (n : Nat) : Dom n noStore := fun _ _ => rfl
end
end Go.Proofs.YtgajcmanompmcaaV
