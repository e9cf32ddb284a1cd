/- Part 3 of the texts that prove FilerReads: the abstract machine, its calculus, and walks through functions; joined by a program of this workplace. -/
import Derived.Test.YtdiofapingdlmaaZFilerReads2
/- The abstract machine: values told less sharply, objects that lie nowhere yet, rows that may be nil. -/
set_option linter.unusedVariables false
set_option linter.unusedSimpArgs false
namespace Go.Proofs.YtdiofapingdlmaaV
open Go Go.RowKit
/-- What one value says, the other one says less sharply. -/
def VLe (v v' : Value) : Prop := ∀ (ι : Inj) (x : Value), VR ι v x → VR ι v' x
def VLes (l l' : List Value) : Prop := ∀ (ι : Inj) (x : List Value), VRs ι l x → VRs ι l' x
theorem VLe.refl (v : Value) : VLe v v := fun _ _ h => h
theorem VLes.refl (l : List Value) : VLes l l := fun _ _ h => h
theorem VLes.cons {v v' : Value} {l l' : List Value} (h : VLe v v') (hs : VLes l l') : VLes (v :: l) (v' :: l') := fun ι x hx => by
  cases hx with
  | cons a b => exact .cons (h _ _ a) (hs _ _ b)
theorem VLe.agg {l l' : List Value} (h : VLes l l') : VLe (.agg ⟨l⟩) (.agg ⟨l'⟩) := fun ι x hx => by
  cases hx with
  | agg a => exact .agg (h _ _ a)
theorem VLe.tuple {l l' : List Value} (h : VLes l l') : VLe (.tuple ⟨l⟩) (.tuple ⟨l'⟩) := fun ι x hx => by
  cases hx with
  | tuple a => exact .tuple (h _ _ a)
theorem vle_row (i o n : Nat) : VLe (.slice (some ⟨i, o, none⟩) n 0) (.slice (some ⟨i, o, none⟩) n 2) := fun ι x hx => by
  cases hx with
  | slice h hc => exact .sliceM h hc
  | sliceZ h hc => exact .sliceMZ h hc
theorem vle_nil (i o : Nat) : VLe (.slice none 0 0) (.slice (some ⟨i, o, none⟩) 0 2) := fun ι x hx => by
  cases hx; exact .sliceMN
theorem vle_has {i o n : Nat} (hn : 0 < n) : VLe (.slice (some ⟨i, o, none⟩) n 2) (.slice (some ⟨i, o, none⟩) n 0) := fun ι x hx => by
  cases hx with
  | sliceM h hc => exact .slice h hc
  | sliceMZ h hc => omega
  | sliceMN => omega
/-- Objects, told less sharply. -/
structure OLe (o o' : AObj) : Prop where
  sz : o'.sz = o.sz
  t : o'.t = o.t
  w : o'.w = o.w
  nil : o.es = [] → o'.es = []
  len : o'.es.length = o.es.length
  el : ∀ (k : Nat) (e' : List Value), o'.es[k]? = some e' → ∃ e : List Value, o.es[k]? = some e ∧ e'.length = e.length ∧ ∀ (j : Nat) (v' : Value), e'[j]? = some v' → ∃ v, e[j]? = some v ∧ VLe v v' ∧ oneB v' = true
def lesC : List Value → List Value → Prop
  | [], [] => True
  | v :: l, v' :: l' => VLe v v' ∧ lesC l l'
  | _, _ => False
theorem lesC.get : ∀ {l l' : List Value}, lesC l l' → l'.length = l.length ∧ ∀ (j : Nat) (v' : Value), l'[j]? = some v' → ∃ v, l[j]? = some v ∧ VLe v v'
  | [], [], _ => ⟨rfl, fun j v h => by simp at h⟩
  | v :: l, v' :: l', ⟨h, hs⟩ => by
    obtain ⟨h1, h2⟩ := lesC.get hs
    refine ⟨by simp [h1], fun j u e => ?_⟩
    cases j with
    | zero => simp at e; subst e; exact ⟨v, rfl, h⟩
    | succ j => simp at e; obtain ⟨u', a, b⟩ := h2 j u e; exact ⟨u', by simpa using a, b⟩
  | [], _ :: _, h => h.elim
  | _ :: _, [], h => h.elim
theorem OLe.one {cs cs' : List Value} {sz t : Nat} {w : Bool} (h : lesC cs cs') (h1 : cs'.all oneB = true) : OLe ⟨[cs], sz, t, w⟩ ⟨[cs'], sz, t, w⟩ := by
  obtain ⟨h2, h3⟩ := h.get
  refine ⟨rfl, rfl, rfl, fun e => by simp at e, rfl, fun k e' he => ?_⟩
  cases k with
  | succ k => simp at he
  | zero =>
    simp at he; subst he
    refine ⟨cs, rfl, h2, fun j v' hv => ?_⟩
    obtain ⟨v, a, b⟩ := h3 j v' hv
    exact ⟨v, a, b, List.all_eq_true.1 h1 v' (List.mem_of_getElem? hv)⟩
theorem ObjR.le {N : Nat} {ι : Inj} {o o' : AObj} {p : Place} {w : World} (h : ObjR N ι o p w) (hl : OLe o o') : ObjR N ι o' p w where
  sz := h.sz.trans hl.sz.symm
  pos := by rw [hl.sz]; exact h.pos
  cap := by rw [hl.len]; exact h.cap
  len := fun k e' he => by
    obtain ⟨e, h1, h2, _⟩ := hl.el k e' he
    rw [h2, hl.sz]; exact h.len k e h1
  cell := fun k e' he j v' hv => by
    obtain ⟨e, h1, _, h3⟩ := hl.el k e' he
    obtain ⟨v, g1, g2, g3⟩ := h3 j v' hv
    obtain ⟨x, f1, f2, f3⟩ := h.cell k e h1 j v g1
    exact ⟨x, f1, g2 _ _ f2, g3⟩
  own' := fun hw => by
    rw [hl.w] at hw
    rcases h.own' hw with g | g
    · exact .inl ⟨hl.nil g.1, g.2⟩
    · rw [hl.t, hl.sz]; exact .inr g
  mp := fun hw m hm => by
    rw [hl.w] at hw; rw [hl.t] at hm
    exact h.mp hw m hm
theorem Rel.le {D : Den} {N : Nat} {w0 w : World} {ι : Inj} {σ : Store} (h : Rel D N w0 ι σ w) {j : Nat} {ob ob' : AObj} (hj : σ j = some ob) (hl : OLe ob ob') : Rel D N w0 ι (app [(j, some ob')] σ) w where
  below := h.below
  size := h.size
  obj := fun i o e => by
    by_cases hi : i = j
    · subst hi
      rw [show app [(i, some ob')] σ i = some ob' by simp [app]] at e
      injection e with e
      subst e
      obtain ⟨p, h1, h2, h3⟩ := h.obj i ob hj
      exact ⟨p, h1, h2.imp (fun g => ⟨hl.nil g.1, g.2⟩) (fun g => g), h3.le hl⟩
    · rw [show app [(j, some ob')] σ i = σ i by simp [app, hi]] at e
      exact h.obj i o e
  sep := fun i i' o o' p p' e e' hp hp' hne hw => by
    have key : ∀ (x : Nat) (q : AObj), app [(j, some ob')] σ x = some q → ∃ q', σ x = some q' ∧ q'.own = q.own ∧ (q'.es = [] → q.es = []) := fun x q e => by
      by_cases hi : x = j
      · subst hi
        rw [show app [(x, some ob')] σ x = some ob' by simp [app]] at e
        injection e with e
        subst e
        exact ⟨ob, hj, by unfold AObj.own; rw [hl.w, hl.t], hl.nil⟩
      · rw [show app [(j, some ob')] σ x = σ x by simp [app, hi]] at e
        exact ⟨q, e, rfl, fun g => g⟩
    obtain ⟨q, g1, g2, g5⟩ := key i o e
    obtain ⟨q', g3, g4, g6⟩ := key i' o' e'
    exact (h.sep i i' q q' p p' g1 g3 hp hp' hne (by rw [g2]; exact hw)).imp (fun g => ⟨g5 g.1, g.2⟩) (Or.imp (fun g => ⟨g6 g.1, g.2⟩) (fun g => g))
  den := h.den
section
variable {P : Program} {E : Env} {m : Nat} {c : Code} {τ τ' : Tm} {n n' : Nat} {σ : Store} {x : AX} {d : Delta} {b : Nat} {D : Delta} {Q : Post}
theorem CR.ole {j : Nat} {ob ob' : AObj} (hj : σ j = some ob) (hl : OLe ob ob') (h : CR P E m c τ n (app [(j, some ob')] σ) x τ' n' d) : CR P E m c τ n σ x τ' n' (d ++ [(j, some ob')]) := by
  refine ⟨⟨h.keys.1, fun i hi => ?_⟩, fun N w0 σ2 ι w a Q hs hR hT hm hdf hf hQ => ?_⟩
  · rw [keys_append, List.mem_append] at hi
    by_cases he : i = j
    · subst he; left; rw [hj]; rfl
    · rcases hi with hi | hi
      · have := h.keys.2 i hi
        rw [show app [(j, some ob')] σ i = σ i by simp [app, he]] at this
        exact this
      · simp [Go.Proofs.YtdiofapingdlmaaV.keys] at hi; exact absurd hi he
  · refine h.run N w0 (app [(j, some ob')] σ2) ι w a Q (hs.app _) (hR.le (hs j ob hj) hl) hT hm hdf hf fun κ w' a' hend => hQ κ w' a' ⟨hend.1, hend.2.1, ?_⟩
    rw [app_append]
    exact hend.2.2
theorem CR.leT {τ1 : Tm} (hv : ∀ t, VLe (τ t) (τ1 t)) (h : CR P E m c τ1 n σ x τ' n' d) : CR P E m c τ n σ x τ' n' d :=
  ⟨h.keys, fun N w0 σ2 ι w a Q hs hR hT hm hdf hf hQ => h.run N w0 σ2 ι w a Q hs hR (fun t => hv t _ _ (hT t)) hm hdf hf hQ⟩
theorem CR.ph {sz t : Nat} (hpos : 0 < sz) (h : CR P E m c τ (n + 1) (app [(n, some ⟨[], sz, t, true⟩)] σ) x τ' n' d) : CR P E m c τ n σ x τ' n' (d ++ [(n, some ⟨[], sz, t, true⟩)]) := by
  have b1 := h.keys.1
  refine ⟨⟨by omega, fun i hi => ?_⟩, fun N w0 σ2 ι w a Q hs hR hT hm hdf hf hQ => ?_⟩
  · rw [keys_append, List.mem_append] at hi
    by_cases he : i = n
    · subst he; right; exact ⟨Nat.le_refl _, by omega⟩
    · rcases hi with hi | hi
      · rcases h.keys.2 i hi with g | g
        · rw [show app [(n, some ⟨[], sz, t, true⟩)] σ i = σ i by simp [app, he]] at g
          exact .inl g
        · exact .inr ⟨by omega, g.2⟩
      · simp [Go.Proofs.YtdiofapingdlmaaV.keys] at hi; exact absurd hi he
  · have hfr := hf n (Nat.le_refl _) (by omega)
    have hle := Inj.set_le hfr ⟨0, 0, sz, 0, none⟩
    refine h.run N w0 (app [(n, some ⟨[], sz, t, true⟩)] σ2) (ι.set n ⟨0, 0, sz, 0, none⟩) w a Q (hs.app _) (rel_ph hR hfr t hpos) (fun t => (hT t).mono hle) hm hdf (fun i i1 i2 => ?_) fun κ w' a' hend => hQ κ w' a' ⟨Inj.le_trans hle hend.1, fun i hi => ?_, ?_⟩
    · unfold Inj.set; rw [if_neg (by omega)]; exact hf i (by omega) i2
    · by_cases he : i = n
      · subst he; exact ⟨Nat.le_refl _, by omega⟩
      · have := hend.2.1 i (by unfold Inj.set; rw [if_neg he]; exact hi)
        omega
    · rw [app_append]
      exact hend.2.2
theorem RA.le {j : Nat} {ob ob' : AObj} (hj : app D σ j = some ob) (hl : OLe ob ob') (h : RA P E b σ m c τ n ((j, some ob') :: D) Q) : RA P E b σ m c τ n D Q := by
  obtain ⟨x, τ', n', e, D', h1, h2, h3⟩ := h
  refine ⟨x, τ', n', e ++ [(j, some ob')], D', CR.ole hj hl h1, ?_, h3⟩
  rw [List.append_assoc]
  exact h2
theorem RA.leT {t : Nat} {v v' : Value} (ht : τ t = v) (hv : VLe v v') (h : RA P E b σ m c (upd τ (some t) v') n D Q) : RA P E b σ m c τ n D Q := by
  obtain ⟨x, τ', n', e, D', h1, h2, h3⟩ := h
  refine ⟨x, τ', n', e, D', CR.leT (fun s => ?_) h1, h2, h3⟩
  by_cases hs : s = t
  · subst hs; simp only [upd, if_true]; rw [ht]; exact hv
  · simp only [upd, if_neg hs]; exact VLe.refl _
theorem RA.ph {sz t : Nat} (hpos : 0 < sz) (h : RA P E b σ m c τ (n + 1) ((n, some ⟨[], sz, t, true⟩) :: D) Q) : RA P E b σ m c τ n D Q := by
  obtain ⟨x, τ', n', e, D', h1, h2, h3⟩ := h
  refine ⟨x, τ', n', e ++ [(n, some ⟨[], sz, t, true⟩)], D', CR.ph hpos h1, ?_, h3⟩
  rw [List.append_assoc]
  exact h2
/-! calls -/
variable {Dn : Den} {f : Nat} {args args2 : List Value} {v v2 : Value}
theorem SC.less_args (ha : VLes args args2) (h : SC P Dn f args2 n σ v n' d) : SC P Dn f args n σ v n' d :=
  ⟨h.1, h.2.1, fun N w0 σ2 ι w args' R hs hR hargs hf hK => h.2.2 N w0 σ2 ι w args' R hs hR (ha _ _ hargs) hf hK⟩
theorem SC.val (hv : VLe v v2) (h : SC P Dn f args n σ v n' d) : SC P Dn f args n σ v2 n' d :=
  ⟨h.1, h.2.1, fun N w0 σ2 ι w args' R hs hR hargs hf hK => h.2.2 N w0 σ2 ι w args' R hs hR hargs hf fun κ w' v' hend hv' => hK κ w' v' hend (hv _ _ hv')⟩
theorem SC.le {j : Nat} {ob ob' : AObj} (h : SC P Dn f args n σ v n' d) (hj : app d σ j = some ob) (hl : OLe ob ob') : SC P Dn f args n σ v n' ((j, some ob') :: d) := by
  refine ⟨h.1, ⟨h.2.1.1, fun i hi => ?_⟩, fun N w0 σ2 ι w args' R hs hR hargs hf hK => h.2.2 N w0 σ2 ι w args' R hs hR hargs hf fun κ w' v' hend hv => hK κ w' v' ⟨hend.1, hend.2.1, ?_⟩ hv⟩
  · by_cases hm : i ∈ keys d
    · exact h.2.1.2 i hm
    · have : i = j := by
        simp only [keys, List.map_cons, List.mem_cons] at hi
        exact hi.resolve_right hm
      subst this
      rw [app_off hm] at hj
      left; rw [hj]; rfl
  · have := hend.2.2.le (j := j) (ob := ob) (Sub.app hs d j ob hj) hl
    rw [← app_append] at this
    exact this
theorem CQ.less_args {Q : Value → Nat → Delta → Prop} (ha : VLes args args2) (h : CQ P Dn f args2 n σ Q) : CQ P Dn f args n σ Q := by
  obtain ⟨v, n', d, h1, h2⟩ := h
  exact ⟨v, n', d, h1.less_args ha, h2⟩
theorem CQ.val {Q R : Value → Nat → Delta → Prop} (h : CQ P Dn f args n σ Q) (hQ : ∀ v n' d, Q v n' d → ∃ v2, VLe v v2 ∧ R v2 n' d) : CQ P Dn f args n σ R := by
  obtain ⟨v, n', d, h1, h2⟩ := h
  obtain ⟨v2, h3, h4⟩ := hQ v n' d h2
  exact ⟨v2, n', d, h1.val h3, h4⟩
theorem CQ.le {Q R : Value → Nat → Delta → Prop} (h : CQ P Dn f args n σ Q) (hQ : ∀ v n' d, Q v n' d → ∃ j ob ob', app d σ j = some ob ∧ OLe ob ob' ∧ R v n' ((j, some ob') :: d)) : CQ P Dn f args n σ R := by
  obtain ⟨v, n', d, h1, h2⟩ := h
  obtain ⟨j, ob, ob', h3, h4, h5⟩ := hQ v n' d h2
  exact ⟨v, n', _, h1.le h3 h4, h5⟩
/-- Behind a call, its result told less sharply; then objects that lie nowhere yet. -/
theorem SC.ph {sz t : Nat} (hpos : 0 < sz) (hd : Dom n σ) (h : SC P Dn f args n σ v n' d) : SC P Dn f args n σ v (n' + 1) ((n', some ⟨[], sz, t, true⟩) :: d) := by
  have b1 := h.2.1.1
  refine ⟨h.1, ⟨by omega, fun i hi => ?_⟩, fun N w0 σ2 ι w args' R hs hR hargs hf hK => h.2.2 N w0 σ2 ι w args' R hs hR hargs (fun i i1 i2 => hf i i1 (by omega)) fun κ w' v' hend hv => ?_⟩
  · simp only [keys, List.map_cons, List.mem_cons] at hi
    rcases hi with rfl | hi
    · exact .inr ⟨b1, by omega⟩
    · rcases h.2.1.2 i hi with g | g
      · exact .inl g
      · exact .inr ⟨g.1, by omega⟩
  · have hk : κ n' = none := by
      by_cases e : κ n' = ι n'
      · rw [e]; exact hf n' b1 (by omega)
      · have := hend.2.1 n' e; omega
    have hle := Inj.set_le hk ⟨0, 0, sz, 0, none⟩
    refine hK (κ.set n' ⟨0, 0, sz, 0, none⟩) w' v' ⟨Inj.le_trans hend.1 hle, fun i hi => ?_, rel_ph hend.2.2 hk t hpos⟩ (hv.mono hle)
    by_cases he : i = n'
    · subst he; exact ⟨b1, by omega⟩
    · have := hend.2.1 i (by intro e; apply hi; unfold Inj.set; rw [if_neg he]; exact e)
      omega
theorem CQ.ph {Q R : Value → Nat → Delta → Prop} {sz t : Nat} (hpos : 0 < sz) (hd : Dom n σ) (h : CQ P Dn f args n σ Q) (hQ : ∀ v n' d, Q v n' d → R v (n' + 1) ((n', some ⟨[], sz, t, true⟩) :: d)) : CQ P Dn f args n σ R := by
  obtain ⟨v, n', d, h1, h2⟩ := h
  exact ⟨v, n' + 1, _, h1.ph hpos hd, hQ _ _ _ h2⟩
end
/-! ### rows that may be nil -/
section
variable {E : Env} [hP : Plain E] {τ : Tm} {o : Oper} {n : Nat} {σ : Store} {t u : Nat} {ti ui ei : TI} {α : Type} {c : α → List Value} {x : Operand}
end
end Go.Proofs.YtdiofapingdlmaaV
/- The abstract machine: calls, run with slices.Insert told by its contract. -/
set_option linter.unusedVariables false
set_option linter.unusedSimpArgs false
namespace Go.Proofs.YtdiofapingdlmaaV
open Go Go.RowKit
def TK.is (k : TK) (e : Nat) : Bool := match k with
  | .ty t => Nat.beq t e
  | .mc _ => false
theorem TK.is_eq {k : TK} {e : Nat} (h : k.is e = true) : k = .ty e := by
  cases k with
  | ty t => rw [Nat.eq_of_beq_eq_true (show Nat.beq t e = true from h)]
  | mc m => cases h
def TK.isTy (k : TK) : Bool := match k with
  | .ty _ => true
  | .mc _ => false
theorem TK.isTy_eq {k : TK} (h : k.isTy = true) : ∃ t, k = .ty t := by
  cases k with
  | ty t => exact ⟨t, rfl⟩
  | mc m => cases h
/-- A call of slices.Insert of one element, not at the end: of which function, the element's type, its cells. -/
def insOk (elem sz : Nat) (args : List Value) (n : Nat) (σ : Store) : Option (Value × Nat × Delta) :=
  match args with
  | [.slice (some ⟨j, off, none⟩) N c, .int .i64 i, .slice (some ⟨m, 0, none⟩) 1 c'] => match σ j, σ m with
    | some oj, some om => match om.es with
      | [x] => if (Nat.beq c 0 || Nat.beq c 2) && decide (0 ≤ i) && Nat.blt i.toNat N && Nat.ble N 1000000 && Nat.ble (off + N) oj.es.length && Nat.beq oj.sz sz && oj.t.is elem && oj.w && Nat.beq om.sz sz && om.w && Nat.beq x.length sz && oj.es.all (fun e => Nat.beq e.length sz) && !(Nat.beq m j) && om.t.isTy then
          some (.slice (some ⟨n, 0, none⟩) (N + 1) 0, n + 1, [(n, some ⟨((oj.es.drop off).take N).take i.toNat ++ [x] ++ ((oj.es.drop off).take N).drop i.toNat, sz, elem, true⟩), (j, none)])
        else none
      | _ => none
    | _, _ => none
  | _ => none
structure Ins where
  f : Nat
  elem : Nat
  sz : Nat
def InsSC (P : Program) (I : Ins) : Prop := ∀ {n j m off N i c' t' : Nat} {es : List (List Value)} {x : List Value} {σ : Store}, (∀ e ∈ es, e.length = I.sz) → x.length = I.sz → σ j = some ⟨es, I.sz, I.elem, true⟩ → σ m = some ⟨[x], I.sz, t', true⟩ → m ≠ j → off + N ≤ es.length → i < N → N ≤ 1000000 →
  SC P noDen I.f [.slice (some ⟨j, off, none⟩) N 2, .int .i64 ((i : Nat) : Int), .slice (some ⟨m, 0, none⟩) 1 c'] n σ (.slice (some ⟨n, 0, none⟩) (N + 1) 2) (n + 1) [(n, some ⟨((es.drop off).take N).take i ++ [x] ++ ((es.drop off).take N).drop i, I.sz, I.elem, true⟩), (j, none)]
theorem insOk_sound {P : Program} {I : Ins} (hI : InsSC P I) {args : List Value} {n n' : Nat} {σ : Store} {v : Value} {d : Delta} (h : insOk I.elem I.sz args n σ = some (v, n', d)) : SC P noDen I.f args n σ v n' d := by
  unfold insOk at h
  split at h
  · rename_i j off N c i m c'
    split at h
    · rename_i oj om hj hm
      split at h
      · rename_i x hx
        split at h
        · rename_i hc
          simp only [Bool.and_eq_true, Bool.or_eq_true, decide_eq_true_eq, Bool.not_eq_true', List.all_eq_true] at hc
          obtain ⟨⟨⟨⟨⟨⟨⟨⟨⟨⟨⟨⟨⟨h1, h2⟩, h3⟩, h4⟩, h5⟩, h6⟩, h7⟩, h8⟩, h9⟩, h10⟩, h11⟩, h12⟩, h13⟩, h14⟩ := hc
          obtain ⟨es, sz, t, w⟩ := oj
          obtain ⟨es2, sz2, t2, w2⟩ := om
          simp only at h6 h7 h8 h9 h10 h12 hx h5 h14
          obtain ⟨t2, rfl⟩ := TK.isTy_eq h14
          cases TK.is_eq h7
          cases Nat.eq_of_beq_eq_true h6
          cases Nat.eq_of_beq_eq_true h9
          subst h8 h10 hx
          have e5 := Nat.le_of_ble_eq_true h5
          have e4 := Nat.le_of_ble_eq_true h4
          have e3 : i.toNat < N := Nat.le_of_ble_eq_true h3
          have ei : i = ((i.toNat : Nat) : Int) := by omega
          cases h
          rw [ei]
          have := hI (n := n) (c' := c') (fun e he => Nat.eq_of_beq_eq_true (h12 e he)) (Nat.eq_of_beq_eq_true h11) hj hm (fun e => by rw [e] at h13; simp at h13) e5 e3 e4
          simp only [Int.toNat_natCast]
          refine (this.val (vle_has (by omega))).less_args ?_
          rcases h1 with h1 | h1
          · cases Nat.eq_of_beq_eq_true h1
            exact VLes.cons (vle_row _ _ _) (VLes.refl _)
          · cases Nat.eq_of_beq_eq_true h1
            exact VLes.refl _
        · cases h
      · cases h
    · cases h
  · cases h
def isEnd : List Value → Bool
  | [.slice _ N _, .int .i64 i, _] => decide (i = (N : Int))
  | _ => true
def xins (L : List Ins) (X : XC) : XC := match L with
  | [] => X
  | I :: r => fun f args n σ => if Nat.beq f I.f && !(isEnd args) then insOk I.elem I.sz args n σ else xins r X f args n σ
def xcall2 (E : Env) (L : List Ins) (F : Nat) : Nat → XC
  | 0 => fun _ _ _ _ => none
  | k + 1 => xins L (xbody E F (xcall2 E L F k))
theorem xins_sound {P : Program} {X : XC} (hX : ∀ f args n σ v n' d, X f args n σ = some (v, n', d) → SC P noDen f args n σ v n' d) : ∀ {L : List Ins}, allP (InsSC P) L → ∀ f args n σ v n' d, xins L X f args n σ = some (v, n', d) → SC P noDen f args n σ v n' d
  | [], _, f, args, n, σ, v, n', d, h => hX _ _ _ _ _ _ _ h
  | I :: r, ⟨h0, hr⟩, f, args, n, σ, v, n', d, h => by
    unfold xins at h
    split at h
    · rename_i hk
      simp only [Bool.and_eq_true] at hk
      cases Nat.eq_of_beq_eq_true hk.1
      exact insOk_sound h0 h
    · exact xins_sound hX hr _ _ _ _ _ _ _ h
theorem xbody_SC {P : Program} {E : Env} (hE : EnvOk P E) {F : Nat} {X : XC} (hX : ∀ f args n σ v n' d, X f args n σ = some (v, n', d) → SC P E.den f args n σ v n' d) {f : Nat} {args : List Value} {n n' : Nat} {σ : Store} {v : Value} {d : Delta} (h : xbody E F X f args n σ = some (v, n', d)) : SC P E.den f args n σ v n' d := by
  unfold xbody at h
  split at h
  · rename_i fn hf
    split at h
    · rename_i c hc
      split at h
      · rename_i hl
        split at h
        · cases h
        · rename_i x τ' n2 d2 hne hr
          split at h
          · rename_i vs hvs
            cases h
            refine SC.of_body hE hf hc hl (CR.of_run hE (xrun_sound hX hr)) ?_ hvs (Less.refl _ _ _)
            cases x with
            | normal => exact .inl rfl
            | ret => exact .inr rfl
            | exit i => exact absurd rfl (hne i)
          · cases h
        · cases h
      · cases h
    · cases h
  · cases h
theorem xcall2_sound {P : Program} {E : Env} (hE : EnvOk P E) (hden : E.den = noDen) {L : List Ins} (hL : allP (InsSC P) L) {F : Nat} : ∀ (k : Nat) f args n σ v n' d, xcall2 E L F k f args n σ = some (v, n', d) → SC P noDen f args n σ v n' d
  | 0, _, _, _, _, _, _, _, h => by cases h
  | k + 1, f, args, n, σ, v, n', d, h => by
    refine xins_sound (fun f args n σ v n' d h => ?_) hL _ _ _ _ _ _ _ h
    rw [← hden]
    exact xbody_SC hE (fun f args n σ v n' d h => by rw [hden]; exact xcall2_sound hE hden hL k _ _ _ _ _ _ _ h) h
theorem PS.closed2 {P : Program} {E : Env} (hE : EnvOk P E) (hd : E.den = noDen) {L : List Ins} (hL : allP (InsSC P) L) {F k f : Nat} {args : List Value} {v : Value} {σ : Store} (h : (xcall2 E L F k f args 0 noStore).map (·.1) = some v) (ha : args.all flat = true) (hv : flat v = true) : PS P noDen f args σ v := by
  intro n _
  cases hx : xcall2 E L F k f args 0 noStore with
  | none => rw [hx] at h; cases h
  | some r =>
    obtain ⟨v', n', d⟩ := r
    rw [hx] at h
    simp at h
    subst h
    exact ⟨n, Nat.le_refl _, SC.anywhere (xcall2_sound hE hd hL k _ _ _ _ _ _ _ hx) ha hv n σ⟩
end Go.Proofs.YtdiofapingdlmaaV
/- The abstract machine: slices that came in or were made (RowQ): as RowP, of objects of either kind. -/
set_option linter.unusedVariables false
set_option linter.unusedSimpArgs false
namespace Go.Proofs.YtdiofapingdlmaaV
open Go Go.RowKit
section
variable {E : Env} [hP : Plain E] {τ : Tm} {o : Oper} {n : Nat} {σ : Store} {t u : Nat} {x y a : Operand} {k k' : IntKind} {v : Value} {ti ei ui : TI}
variable {α : Type} {c : α → List Value} {d0 : α}
inductive RowQ (σ : Store) (e sz : Nat) : Value → List (List Value) → Prop
  | nil : RowQ σ e sz (.slice none 0 0) []
  | zero : RowQ σ e sz (.slice (some ⟨0, 0, none⟩) 0 1) []
  | obj {i : Nat} {es rest : List (List Value)} {w : Bool} (h : σ i = some ⟨es ++ rest, sz, e, w⟩) : RowQ σ e sz (.slice (some ⟨i, 0, none⟩) es.length 0) es
theorem RowP.Q {σ : Store} {e sz : Nat} {v : Value} {es : List (List Value)} (h : RowP σ e sz v es) : RowQ σ e sz v es := by
  cases h with
  | nil => exact .nil
  | zero => exact .zero
  | obj h => exact .obj h
theorem RowQ.new {σ : Store} {e sz j N : Nat} {w : Bool} {l : List α} (h : σ j = some ⟨l.map c, sz, e, w⟩) (hN : l.length = N) : RowQ σ e sz (.slice (some ⟨j, 0, none⟩) N 0) (l.map c) := by
  have h1 : RowQ σ e sz (.slice (some ⟨j, 0, none⟩) (l.map c).length 0) (l.map c) := .obj (rest := []) (w := w) (by rw [List.append_nil]; exact h)
  rw [List.length_map, hN] at h1
  exact h1
theorem RowQ.mono {σ σ' : Store} (hs : Sub σ σ') {e sz : Nat} {v : Value} {es : List (List Value)} : RowQ σ e sz v es → RowQ σ' e sz v es
  | .nil => .nil
  | .zero => .zero
  | .obj h => .obj (hs _ _ h)
theorem RowQ.at {σ : Store} {e sz : Nat} {v : Value} {es : List (List Value)} (h : RowQ σ e sz v es) (h0 : 0 < es.length) : v = .slice (some ⟨rk v, 0, none⟩) es.length 0 ∧ ∃ rest w, σ (rk v) = some ⟨es ++ rest, sz, e, w⟩ := by
  cases h with
  | nil => simp at h0
  | zero => simp at h0
  | obj h => exact ⟨rfl, _, _, h⟩
theorem RowQ.lt {n : Nat} {σ : Store} {e sz : Nat} {v : Value} {es : List (List Value)} (h : RowQ σ e sz v es) (hd : Dom n σ) (h0 : 0 < n) : rk v < n := by
  cases h with
  | nil => exact h0
  | zero => exact h0
  | obj h => exact hd.lt h
theorem RowQ.cut {σ : Store} {e sz : Nat} {v : Value} {es : List (List Value)} (h : RowQ σ e sz v es) (k : Nat) (hk : k ≤ es.length) : RowQ σ e sz (cutV v k) (es.take k) := by
  cases h with
  | nil => simp [cutV]; exact .nil
  | zero =>
    have : k = 0 := by simpa using hk
    subst this
    simp [cutV]; exact .zero
  | @obj i es rest w h =>
    have h1 : (es.take k).length = k := by rw [List.length_take]; omega
    have h2 : RowQ σ e sz (.slice (some ⟨i, 0, none⟩) (es.take k).length 0) (es.take k) := .obj (rest := es.drop k ++ rest) (by rw [← List.append_assoc, List.take_append_drop]; exact h)
    rw [h1] at h2
    exact h2
theorem RowQ.get {σ : Store} {e sz m : Nat} {v : Value} {l : List α} (h : RowQ σ e sz v (l.map c)) (hm : m < l.length) : ∃ rest w, σ (rk v) = some ⟨l.map c ++ rest, sz, e, w⟩ := (h.at (by rw [List.length_map]; omega)).2
end
theorem RowQ.one {σ : Store} {e sz : Nat} {v : Value} {es : List (List Value)} (h : RowQ σ e sz v es) : oneB v = true := by cases h <;> rfl
theorem RowQ.cells {σ : Store} {e sz : Nat} {v : Value} {es : List (List Value)} (h : RowQ σ e sz v es) : cellsL v = [v] := by cases h <;> rfl
end Go.Proofs.YtdiofapingdlmaaV
/- The abstract machine: short forms of the calculus' steps (for texts that must be short). -/
set_option linter.unusedVariables false
set_option linter.unusedSimpArgs false
namespace Go.Proofs.YtdiofapingdlmaaV
open Go Go.RowKit
abbrev yT : Value := .bool true
abbrev yF : Value := .bool false
/-- The temporaries from 'a' on, 'k' of them, hold nothing. -/
def undT (a k : Nat) (τ : Tm) : Tm := fun t => bif Nat.ble a t && Nat.blt t (a + k) then undef else τ t
def offsR (ops : Array Oper) (m : Nat) : Nat → Nat → List Oper → Tm → Option (List Oper)
  | _, 0, l, _ => some l
  | a, k + 1, o :: l, τ => bif !wantA ops τ o && dstOk m o && (match o.dst with | some b => Nat.beq a b | none => false) then offsR ops m (a + 1) k l (upd τ (some a) undef) else none
  | _, _ + 1, [], _ => none
theorem undT_upd (a k : Nat) (τ : Tm) : undT (a + 1) k (upd τ (some a) undef) = undT a (k + 1) τ := by
  funext t
  unfold undT
  by_cases h : t = a
  · subst h
    have h1 : (Nat.ble (t + 1) t && Nat.blt t (t + 1 + k)) = false := by
      have : Nat.ble (t + 1) t = false := by rw [← Bool.not_eq_true, Nat.ble_eq]; omega
      rw [this]; rfl
    have h2 : (Nat.ble t t && Nat.blt t (t + (k + 1))) = true := by
      rw [Bool.and_eq_true]; exact ⟨by rw [Nat.ble_eq]; omega, by unfold Nat.blt; rw [Nat.ble_eq]; omega⟩
    rw [h1, h2]
    simp [upd]
  · have h1 : (Nat.ble (a + 1) t && Nat.blt t (a + 1 + k)) = (Nat.ble a t && Nat.blt t (a + (k + 1))) := by
      rw [Bool.eq_iff_iff, Bool.and_eq_true, Bool.and_eq_true]
      unfold Nat.blt
      rw [Nat.ble_eq, Nat.ble_eq, Nat.ble_eq, Nat.ble_eq]
      omega
    rw [h1]
    cases hb : (Nat.ble a t && Nat.blt t (a + (k + 1))) with
    | true => rfl
    | false => simp [upd, h]
/-- What pure operations give, each with the values of those ahead of it. -/
def tr (E : Env) (ops : Array Oper) (m n : Nat) (σ : Store) : List (Nat × Value) → List Oper → Tm → List (Bool × Bool × Option Nat × Option (Value × Nat × Delta))
  | (t, v) :: q, o :: l, τ => (wantA ops τ o, dstOk m o, o.dst, (aop E τ o).run n σ) :: tr E ops m n σ q l (upd τ (some t) v)
  | _, _, _ => []
def ex (n : Nat) (q : List (Nat × Value)) : List (Bool × Bool × Option Nat × Option (Value × Nat × Delta)) := q.map fun p => (true, true, some p.1, some (p.2, n, []))
def updL (τ : Tm) : List (Nat × Value) → Tm
  | [] => τ
  | (t, v) :: q => updL (upd τ (some t) v) q
abbrev tri (ops : Array Oper) (m : Nat) (τ : Tm) (o : Oper) (t : Nat) : Prop := (wantA ops τ o, dstOk m o, o.dst) = (true, true, some t)
def callOf (τ : Tm) (o : Oper) : Option (Nat × List Value) := match o.op with
  | .call cl => match cl.callee with
    | .value fo => match args1 τ fo with
      | some (.func (.func g) first cap) => match evL τ cl.args.toList with
        | some as => some (g, first.toList ++ as ++ cap.toList)
        | none => none
      | _ => none
    | _ => none
  | _ => none
theorem callOf_at {τ : Tm} {o : Oper} {g : Nat} {all : List Value} (h : callOf τ o = some (g, all)) : ∃ cl fo first cap as, o.op = .call cl ∧ cl.callee = .value fo ∧ args1 τ fo = some (.func (.func g) first cap) ∧ evL τ cl.args.toList = some as ∧ first.toList ++ as ++ cap.toList = all := by
  unfold callOf at h
  split at h
  · rename_i cl h1
    split at h
    · rename_i fo h2
      split at h
      · rename_i g' first cap h3
        split at h
        · rename_i as h4
          cases h
          exact ⟨cl, fo, first, cap, as, h1, h2, h3, h4, rfl⟩
        · cases h
      · cases h
    · cases h
  · cases h
section
variable {P : Program} {E : Env} {m nb : Nat} {md : List (Option (List Nat))} {ops : Array Oper} {σ : Store} {τ : Tm} {n : Nat} {D : Delta} {K : Tm → Nat → Delta → Prop} {r l : List Oper} {o : Oper} {v : Value} {Ds : List Delta}
theorem OA.offs (a k : Nat) (h : offsR ops m a k l τ = some r) (H : OA P E m ops σ r (undT a k τ) n D K) : OA P E m ops σ l τ n D K := by
  induction k generalizing a l τ with
  | zero =>
    simp only [offsR, Option.some.injEq] at h
    subst h
    have e : undT a 0 τ = τ := by
      funext t; unfold undT
      have : (Nat.ble a t && Nat.blt t (a + 0)) = false := by
        rw [← Bool.not_eq_true, Bool.and_eq_true]; unfold Nat.blt; rw [Nat.ble_eq, Nat.ble_eq]; omega
      rw [this]; rfl
    rw [e] at H; exact H
  | succ k ih =>
    cases l with
    | nil => simp [offsR] at h
    | cons o l =>
      simp only [offsR] at h
      cases hb : (!wantA ops τ o && dstOk m o && (match o.dst with | some b => Nat.beq a b | none => false)) with
      | false => rw [hb] at h; cases h
      | true =>
        rw [hb] at h
        simp only [Bool.and_eq_true, Bool.not_eq_true'] at hb
        obtain ⟨⟨h1, h2⟩, h3⟩ := hb
        have h4 : o.dst = some a := by
          split at h3
          · rename_i b e; rw [e, Nat.eq_of_beq_eq_true h3]
          · cases h3
        rw [← undT_upd] at H
        exact OA.off h1 h2 h4 (ih (a + 1) h H)
theorem tri.of {t : Nat} (h : tri ops m τ o t) : wantA ops τ o = true ∧ dstOk m o = true ∧ o.dst = some t := by
  have h1 := congrArg Prod.fst h
  have h2 := congrArg Prod.snd h
  exact ⟨h1, congrArg Prod.fst h2, congrArg Prod.snd h2⟩
theorem OA.ps (q : List (Nat × Value)) (h : tr E ops m n (app D σ) q l τ = ex n q) (H : OA P E m ops σ (l.drop q.length) (updL τ q) n D K) : OA P E m ops σ l τ n D K := by
  induction q generalizing l τ with
  | nil => exact H
  | cons p q ih =>
    obtain ⟨t, v⟩ := p
    cases l with
    | nil => simp [tr, ex] at h
    | cons o l =>
      simp only [tr, ex, List.map_cons, List.cons.injEq, Prod.mk.injEq] at h
      obtain ⟨⟨h1, h2, h3, h4⟩, h5⟩ := h
      exact OA.pure h1 h2 h3 h4 (ih h5 H)
theorem oP (t : Nat) (v : Value) (h : tri ops m τ o t) (hs : (aop E τ o).run n (app D σ) = some (v, n, [])) (H : OA P E m ops σ r (upd τ (some t) v) n D K) : OA P E m ops σ (o :: r) τ n D K := OA.pure h.of.1 h.of.2.1 h.of.2.2 hs H
theorem oC (t : Nat) {g : Nat} {all : List Value} (hdom : Dom n (app D σ)) (h : tri ops m τ o t) (hc : callOf τ o = some (g, all)) (hp : PS P E.den g all (app D σ) v) (H : ∀ n1, n ≤ n1 → OA P E m ops σ r (upd τ (some t) v) n1 D K) : OA P E m ops σ (o :: r) τ n D K := by
  obtain ⟨cl, fo, first, cap, as, h1, h2, h3, h4, h5⟩ := callOf_at hc
  exact OA.callP hdom h.of.1 h.of.2.1 h.of.2.2 h1 h2 h3 h4 h5 hp H
theorem PQ.offs (a k : Nat) (h : offsR ops m a k l τ = some r) (H : PQ P E m ops nb md σ K r (undT a k τ) n (Ds ++ List.replicate k [])) : PQ P E m ops nb md σ K l τ n Ds := by
  induction k generalizing a l τ Ds with
  | zero =>
    simp only [offsR, Option.some.injEq] at h
    subst h
    have e : undT a 0 τ = τ := by
      funext t; unfold undT
      have : (Nat.ble a t && Nat.blt t (a + 0)) = false := by
        rw [← Bool.not_eq_true, Bool.and_eq_true]; unfold Nat.blt; rw [Nat.ble_eq, Nat.ble_eq]; omega
      rw [this]; rfl
    rw [e, List.replicate_zero, List.append_nil] at H; exact H
  | succ k ih =>
    cases l with
    | nil => simp [offsR] at h
    | cons o l =>
      simp only [offsR] at h
      cases hb : (!wantA ops τ o && dstOk m o && (match o.dst with | some b => Nat.beq a b | none => false)) with
      | false => rw [hb] at h; cases h
      | true =>
        rw [hb] at h
        simp only [Bool.and_eq_true, Bool.not_eq_true'] at hb
        obtain ⟨⟨h1, h2⟩, h3⟩ := hb
        have h4 : o.dst = some a := by
          split at h3
          · rename_i b e; rw [e, Nat.eq_of_beq_eq_true h3]
          · cases h3
        rw [← undT_upd, List.replicate_succ, show Ds ++ ([] :: List.replicate k ([] : Delta)) = (Ds ++ [[]]) ++ List.replicate k [] from by rw [List.append_assoc]; rfl] at H
        exact PQ.off h1 h2 h4 (ih (a + 1) h H)
theorem PQ.ps (q : List (Nat × Value)) (h : tr E ops m n noStore q l τ = ex n q) (H : PQ P E m ops nb md σ K (l.drop q.length) (updL τ q) n (Ds ++ List.replicate q.length [])) : PQ P E m ops nb md σ K l τ n Ds := by
  induction q generalizing l τ Ds with
  | nil => rw [List.length_nil, List.replicate_zero, List.append_nil] at H; exact H
  | cons p q ih =>
    obtain ⟨t, v⟩ := p
    cases l with
    | nil => simp [tr, ex] at h
    | cons o l =>
      simp only [tr, ex, List.map_cons, List.cons.injEq, Prod.mk.injEq] at h
      obtain ⟨⟨h1, h2, h3, h4⟩, h5⟩ := h
      rw [List.length_cons, List.replicate_succ, show Ds ++ ([] :: List.replicate q.length ([] : Delta)) = (Ds ++ [[]]) ++ List.replicate q.length [] from by rw [List.append_assoc]; rfl] at H
      exact PQ.pure h1 h2 h3 noStore ⟨Sub.none _, fun _ _ y q h => by cases h⟩ h4 (ih h5 H)
theorem pP (t : Nat) (v : Value) (h : tri ops m τ o t) (hs : (aop E τ o).run n noStore = some (v, n, [])) (H : PQ P E m ops nb md σ K r (upd τ (some t) v) n (Ds ++ [[]])) : PQ P E m ops nb md σ K (o :: r) τ n Ds := PQ.pure h.of.1 h.of.2.1 h.of.2.2 noStore ⟨Sub.none _, fun _ _ y q h => by cases h⟩ hs H
omit P in
theorem nOK {X : Option (List Nat)} {σ0 : Store} : Sub noStore σ0 ∧ ∀ R, X = some R → ∀ y q, noStore y = some q → y ∈ R := ⟨Sub.none _, fun _ _ y q h => by cases h⟩
omit P in
theorem sA {V : Delta} (hv : selD (fun i => Ds.getD i []) (fun i => (B ops Ds.length).contains i) Ds.length = V) (hmd : md.getD Ds.length none = none) : Sub (app (V ++ D) σ) (seenBy ops Ds (app D σ)) ∧ ∀ R, md.getD Ds.length none = some R → ∀ y q, app (V ++ D) σ y = some q → y ∈ R := by rw [hmd]; exact seen_any hv
omit P in
theorem s1 {V : Delta} {k : Nat} {ob : AObj} (hv : selD (fun i => Ds.getD i []) (fun i => (B ops Ds.length).contains i) Ds.length = V) (hmd : md.getD Ds.length none = some [k]) (hk : app (V ++ D) σ k = some ob) : Sub (app [(k, some ob)] noStore) (seenBy ops Ds (app D σ)) ∧ ∀ R, md.getD Ds.length none = some R → ∀ y q, app [(k, some ob)] noStore y = some q → y ∈ R := by rw [hmd]; exact seen_one hv hk
theorem pQL (t : Nat) (v : Value) {k : Nat} {ob : AObj} {V : Delta} (h : tri ops m τ o t) (hmd : md.getD Ds.length none = some [k]) (hv : selD (fun i => Ds.getD i []) (fun i => (B ops Ds.length).contains i) Ds.length = V) (hk : app (V ++ D) σ k = some ob) (hs : (aop E τ o).run n (app [(k, some ob)] noStore) = some (v, n, [])) (H : PQ P E m ops nb md (app D σ) K r (upd τ (some t) v) n (Ds ++ [[]])) : PQ P E m ops nb md (app D σ) K (o :: r) τ n Ds :=
  PQ.pure h.of.1 h.of.2.1 h.of.2.2 _ (by rw [hmd]; exact seen_one hv hk) hs H
theorem pC (t : Nat) {g : Nat} {all : List Value} (h : tri ops m τ o t) (hc : callOf τ o = some (g, all)) (hp : PS P E.den g all noStore v) (H : ∀ n1, n ≤ n1 → PQ P E m ops nb md σ K r (upd τ (some t) v) n1 (Ds ++ [[]])) : PQ P E m ops nb md σ K (o :: r) τ n Ds := by
  obtain ⟨cl, fo, first, cap, as, h1, h2, h3, h4, h5⟩ := callOf_at hc
  exact PQ.callP noStore (dom_none _) h.of.1 h.of.2.1 h.of.2.2 h1 h2 h3 h4 h5 ⟨Sub.none _, fun _ _ y q h => by cases h⟩ hp H
theorem pA (t : Nat) {g : Nat} {all : List Value} {V : Delta} (hdom : Dom n (app (V ++ D) σ)) (h : tri ops m τ o t) (hc : callOf τ o = some (g, all)) (hmd : md.getD Ds.length none = none) (hv : selD (fun i => Ds.getD i []) (fun i => (B ops Ds.length).contains i) Ds.length = V) (hp : PS P E.den g all (app (V ++ D) σ) v) (H : ∀ n1, n ≤ n1 → PQ P E m ops nb md (app D σ) K r (upd τ (some t) v) n1 (Ds ++ [[]])) : PQ P E m ops nb md (app D σ) K (o :: r) τ n Ds := by
  obtain ⟨cl, fo, first, cap, as, h1, h2, h3, h4, h5⟩ := callOf_at hc
  exact PQ.callP _ hdom h.of.1 h.of.2.1 h.of.2.2 h1 h2 h3 h4 h5 (by rw [hmd]; exact seen_any hv) hp H
theorem rG {i : Nat} {k : AObj → T} {ob : AObj} (hσ : σ i = some ob) (hT : aop E τ o = T.get i k) (hf : (k ob).run n σ = some (v, n, [])) : (aop E τ o).run n σ = some (v, n, []) := by
  rw [hT]; exact run_get hσ hf
/-- A region whose order is the text's, and what stands behind it. -/
theorem RA.sR {b : Nat} {Q : Post} {c' : Code} {id : Nat} (hd : Dom b σ) (hE : EnvOk P E) (h : OA P E m ops σ ops.toList τ n D (fun τ' n' D' => n ≤ n' → RA P E b σ m c' τ' n' D' Q)) : RA P E b σ m (.seq (.region id ops false) c') τ n D Q := RA.seq hd (RA.region hE h)
theorem rbL : ∀ (l : List (Nat × Value)), l.map (fun p => τ p.1) = l.map (·.2) → Has τ l
  | [], _ => trivial
  | (t, v) :: l, h => by
    simp only [List.map_cons, List.cons.injEq] at h
    exact ⟨h.1, rbL l h.2⟩
theorem RA.rb {b : Nat} {Q : Post} {c : Code} (l : List (Nat × Value)) (h : l.map (fun p => τ p.1) = l.map (·.2)) (H : ∀ τ0, RA P E b σ m c (upds τ0 l) n D Q) : RA P E b σ m c τ n D Q := RA.rebase l (rbL l h) H
theorem o1 (dst : Option Nat) (v : Value) (n1 : Nat) (w : Nat × Option AObj) (hs : (aop E τ o).run n (app D σ) = some (v, n1, [w])) (H : OA P E m ops σ r (upd τ dst v) n1 (w :: D) K) (h : (wantA ops τ o, dstOk m o, o.dst) = (true, true, dst) := by rfl) (hn : n ≤ n1 := by omega) : OA P E m ops σ (o :: r) τ n D K := by
  have h1 := congrArg Prod.fst h
  have h2 := congrArg Prod.snd h
  exact OA.op1 h1 (congrArg Prod.fst h2) (congrArg Prod.snd h2) hs hn H
/-- Lines that load. -/
theorem oL (t : Nat) (v : Value) {i : Nat} {ob : AObj} {k : AObj → T} (hk : app D σ i = some ob) (H : OA P E m ops σ r (upd τ (some t) v) n D K) (h : tri ops m τ o t := by rfl) (hT : aop E τ o = T.get i k := by rfl) (hf : (k ob).run n (app D σ) = some (v, n, []) := by rfl) : OA P E m ops σ (o :: r) τ n D K := oP t v h (rG hk hT hf) H
theorem pQl (t : Nat) (v : Value) {k : Nat} {ob : AObj} {kk : AObj → T} (hk : app D σ k = some ob) (H : PQ P E m ops nb md (app D σ) K r (upd τ (some t) v) n (Ds ++ [[]])) (h : tri ops m τ o t := by rfl) (hmd : md.getD Ds.length none = some [k] := by kernel_rfl) (hv : selD (fun i => Ds.getD i []) (fun i => (B ops Ds.length).contains i) Ds.length = [] := by kernel_rfl) (hT : aop E τ o = T.get k kk := by rfl) (hf : (kk ob).run n (app [(k, some ob)] noStore) = some (v, n, []) := by rfl) : PQ P E m ops nb md (app D σ) K (o :: r) τ n Ds :=
  pQL t v h hmd hv hk (rG get_here hT hf) H
end
theorem LsO {n n' : Nat} {d0 d : Delta} (h1 : ∀ p ∈ d, p.1 ∈ keys d0 ∧ ∀ τ : Store, app d τ p.1 = app d0 τ p.1) (h2 : goneP n n' d d0 := by simp only [goneP, memP, List.cons_append, List.nil_append, true_or, or_true, true_and, and_true, or_false] <;> omega) : Less n n' d0 d := Less.of h1 (gone_of h2)
theorem fA {nd D : Delta} {k : Nat} {o : Option AObj} {l : Delta} (A : ∀ {τ : Store}, app nd τ k = o) (B : ∀ {τ : Store}, app D τ k = o) (hl : ∀ p ∈ l, p.1 ∈ keys D ∧ ∀ τ : Store, app nd τ p.1 = app D τ p.1) : ∀ p ∈ (k, o) :: l, p.1 ∈ keys D ∧ ∀ τ : Store, app nd τ p.1 = app D τ p.1 := fac (mm (fun _ => A) (fun _ => B)) hl
section
variable {n : Nat} {p0 p1 p2 p3 p4 p5 p6 p7 : Option AObj} {a0 a1 a2 a3 a4 a5 a6 a7 : Nat} {r : Delta}
theorem kk0 (h : ∀ i ∈ keys ((a0, p0) :: r), i < n) : a0 < n := h _ (by simp [keys])
end
/-- A leaf of a call that changes nothing. -/
theorem lf {E : Env} {x : AX} {τ' : Tm} {σ : Store} {D : Delta} {n n' : Nat} {r : List ResultVar} {v : Value} (v0 : Value) (h : one [v0] = v) (hx : x = .normal ∨ x = .ret := by first | exact .inr rfl | exact .inl rfl) (hr : resL E τ' (app D σ) r = some [v0] := by exact resL_cons rfl resL_nil) (hk : ∀ i ∈ keys D, n ≤ i ∧ i < n' := by intro i_ hi_; simp only [keys, List.cons_append, List.nil_append, List.map_cons, List.map_nil, List.mem_cons, List.not_mem_nil, or_false] at hi_ <;> omega) : (x = .normal ∨ x = .ret) ∧ ∃ vs, resL E τ' (app D σ) r = some vs ∧ one vs = v ∧ ∀ i ∈ keys D, n ≤ i ∧ i < n' := ⟨hx, _, hr, h, hk⟩
abbrev yU : Value := .tuple #[]
/-- A store, its side conditions by computation. -/
theorem rS {E : Env} [Plain E] {τ : Tm} {o : Oper} {n : Nat} {σ : Store} {t i m j : Nat} {a x : Operand} {v : Value} {ti : TI} {cs e : List Value} {ob ob' : AObj} (hσ : σ i = some ob) (ho : o.op = .store t a x := by rfl) (ha : args1 τ a = some (.pointer (some ⟨i, m, some j⟩)) := by rfl) (hx : args1 τ x = some v := by rfl) (ht : E.ty t = some ti := by rfl) (hc : cellsL v = cs := by rfl) (hl : cs.length = ti.size := by rfl) (hb : cs.all oneB = true := by rfl) (hw : ob.w = true := by rfl) (he : ob.es[m]? = some e := by rfl) (hj : Nat.ble (j + ti.size) e.length = true := by rfl) (hn : { ob with es := ob.es.set m (ov e j cs) } = ob' := by rfl) : (aop E τ o).run n σ = some (.tuple #[], n, [(i, some ob')]) := r_store ho ha hx ht hc hl hb hσ hw he (Nat.le_of_ble_eq_true hj) hn
end Go.Proofs.YtdiofapingdlmaaV
/- The abstract machine: what operations on maps make of symbolic values. -/
set_option linter.unusedVariables false
set_option linter.unusedSimpArgs false
namespace Go.Proofs.YtdiofapingdlmaaV
open Go Go.RowKit
section
variable {E : Env} [hP : Plain E] {τ : Tm} {o : Oper} {n : Nat} {σ : Store} {t : Nat} {x m k : Operand} {i j q : Nat} {l : List (Nat × ByteArray)} {s : ByteArray} {ty : Nat × TI} {seen : List Nat}
theorem r_mkmap (ho : o.op = .makeMap t none) : (aop E τ o).run n σ = some (.map (some n), n + 1, [(n, some (mobj (.map [])))]) := by
  rw [aop_plain]
  unfold aop0
  simp only [ho, T.run]
theorem run_getM {kk : MC → T} {mc : MC} {r : Option (Value × Nat × Delta)} (h : σ i = some (mobj mc)) (hk : (kk mc).run n σ = r) : (getM i kk).run n σ = r := run_get h hk
theorem r_mapset (ho : o.op = .mapUpdate t m k x) (hm : args1 τ m = some (.map (some i))) (hk : args1 τ k = some (.int .i64 ((q : Nat) : Int))) (hx : args1 τ x = some (.string s)) (ht : mapTy E t = some ty) (hσ : σ i = some (mobj (.map l))) : (aop E τ o).run n σ = some (undef, n, [(i, some (mobj (.map (mset q s l))))]) := by
  rw [aop_plain]
  unfold aop0
  simp only [ho, ev, hm, hk, hx, amset, ht]
  rw [if_pos (Int.natCast_nonneg q)]
  exact run_getM hσ rfl
theorem r_mapget (ho : o.op = .lookup t m k true) (hm : args1 τ m = some (.map (some i))) (hk : args1 τ k = some (.int .i64 ((q : Nat) : Int))) (ht : mapTy E t = some ty) (hσ : σ i = some (mobj (.map l))) (hf : mfind q l = some s) : (aop E τ o).run n σ = some (.tuple ⟨[.string s, .bool true]⟩, n, []) := by
  rw [aop_plain]
  unfold aop0
  simp only [ho, ev, hm, hk, amget, ht]
  rw [if_pos (Int.natCast_nonneg q)]
  refine run_getM hσ ?_
  simp only [Int.toNat_natCast, hf, T.run, prOk, if_true]
theorem r_range (ho : o.op = .range t x) (hx : args1 τ x = some (.map (some i))) (ht : mapTy E t = some ty) (hσ : σ i = some (mobj (.map l))) : (aop E τ o).run n σ = some (.pointer (some ⟨n, 0, none⟩), n + 1, [(n, some (mobj (.it i [] l.length)))]) := by
  rw [aop_plain]
  unfold aop0
  simp only [ho, ev, hx, arange, ht]
  exact run_getM hσ rfl
theorem r_next0 (ho : o.op = .next x false) (hx : args1 τ x = some (.pointer (some ⟨i, 0, none⟩))) (hi : σ i = some (mobj (.it j seen l.length))) (hj : σ j = some (mobj (.map l))) (h : mleft seen l 0 = []) : (aop E τ o).run n σ = some (.tuple ⟨[.bool false]⟩, n, []) := by
  rw [aop_plain]
  unfold aop0
  simp only [ho, ev, hx, anext]
  refine run_getM hi (run_getM hj ?_)
  simp only [if_true, h, T.run]
theorem r_next1 {c kk : Nat} (ho : o.op = .next x false) (hx : args1 τ x = some (.pointer (some ⟨i, 0, none⟩))) (hi : σ i = some (mobj (.it j seen l.length))) (hj : σ j = some (mobj (.map l))) (h : mleft seen l 0 = [(c, kk, s)]) : (aop E τ o).run n σ = some (.tuple ⟨[.bool true, .int .i64 ((kk : Nat) : Int), .string s]⟩, n, [(i, some (mobj (.it j (seen ++ [c]) l.length)))]) := by
  rw [aop_plain]
  unfold aop0
  simp only [ho, ev, hx, anext]
  refine run_getM hi (run_getM hj ?_)
  simp only [if_true, h, T.run]
theorem r_entry {c kk : Nat} (ho : o.op = .entry x) (hx : args1 τ x = some (.pointer (some ⟨i, 0, none⟩))) (hi : σ i = some (mobj (.it j seen l.length))) (hj : σ j = some (mobj (.map l))) (h : seen.getLast? = some c) (hl : l[c]? = some (kk, s)) : (aop E τ o).run n σ = some (.tuple ⟨[.int .i64 ((kk : Nat) : Int), .string s]⟩, n, []) := by
  rw [aop_plain]
  unfold aop0
  simp only [ho, ev, hx, aentry]
  refine run_getM hi (run_getM hj ?_)
  simp only [if_true, h, hl, T.run]
end
end Go.Proofs.YtdiofapingdlmaaV
