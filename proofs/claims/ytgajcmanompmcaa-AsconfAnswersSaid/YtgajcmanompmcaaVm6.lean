/- The abstract machine: values told less sharply, objects that lie nowhere yet, rows that may be nil. -/
import Derived.Test.YtgajcmanompmcaaVm5
set_option linter.unusedVariables false
set_option linter.unusedSimpArgs false
namespace Go.Proofs.YtgajcmanompmcaaV
open Go Go.RowKit
/-- What one value says, the other one says less sharply. -/
def VLe (v v' : Value) : Prop := ∀ (ι : Inj) (x : Value), VR ι v x → VR ι v' x
def VLes (l l' : List Value) : Prop := ∀ (ι : Inj) (x : List Value), VRs ι l x → VRs ι l' x
theorem VLe.refl (v : Value) : VLe v v := fun _ _ h => h
theorem VLes.refl (l : List Value) : VLes l l := fun _ _ h => h
theorem VLes.cons {v v' : Value} {l l' : List Value} (h : VLe v v') (hs : VLes l l') : VLes (v :: l) (v' :: l') := fun ι x hx => by
  cases hx with
  | cons a b => exact .cons (h _ _ a) (hs _ _ b)
theorem VLe.agg {l l' : List Value} (h : VLes l l') : VLe (.agg ⟨l⟩) (.agg ⟨l'⟩) := fun ι x hx => by
  cases hx with
  | agg a => exact .agg (h _ _ a)
theorem VLe.tuple {l l' : List Value} (h : VLes l l') : VLe (.tuple ⟨l⟩) (.tuple ⟨l'⟩) := fun ι x hx => by
  cases hx with
  | tuple a => exact .tuple (h _ _ a)
theorem vle_row (i o n : Nat) : VLe (.slice (some ⟨i, o, none⟩) n 0) (.slice (some ⟨i, o, none⟩) n 2) := fun ι x hx => by
  cases hx with
  | slice h hc => exact .sliceM h hc
  | sliceZ h hc => exact .sliceMZ h hc
theorem vle_nil (i o : Nat) : VLe (.slice none 0 0) (.slice (some ⟨i, o, none⟩) 0 2) := fun ι x hx => by
  cases hx; exact .sliceMN
theorem vle_has {i o n : Nat} (hn : 0 < n) : VLe (.slice (some ⟨i, o, none⟩) n 2) (.slice (some ⟨i, o, none⟩) n 0) := fun ι x hx => by
  cases hx with
  | sliceM h hc => exact .slice h hc
  | sliceMZ h hc => omega
  | sliceMN => omega
/-- Objects, told less sharply. -/
structure OLe (o o' : AObj) : Prop where
  sz : o'.sz = o.sz
  t : o'.t = o.t
  w : o'.w = o.w
  nil : o.es = [] → o'.es = []
  len : o'.es.length = o.es.length
  el : ∀ (k : Nat) (e' : List Value), o'.es[k]? = some e' → ∃ e : List Value, o.es[k]? = some e ∧ e'.length = e.length ∧ ∀ (j : Nat) (v' : Value), e'[j]? = some v' → ∃ v, e[j]? = some v ∧ VLe v v' ∧ oneB v' = true
def lesC : List Value → List Value → Prop
  | [], [] => True
  | v :: l, v' :: l' => VLe v v' ∧ lesC l l'
  | _, _ => False
theorem lesC.get : ∀ {l l' : List Value}, lesC l l' → l'.length = l.length ∧ ∀ (j : Nat) (v' : Value), l'[j]? = some v' → ∃ v, l[j]? = some v ∧ VLe v v'
  | [], [], _ => ⟨rfl, fun j v h => by simp at h⟩
  | v :: l, v' :: l', ⟨h, hs⟩ => by
    obtain ⟨h1, h2⟩ := lesC.get hs
    refine ⟨by simp [h1], fun j u e => ?_⟩
    cases j with
    | zero => simp at e; subst e; exact ⟨v, rfl, h⟩
    | succ j => simp at e; obtain ⟨u', a, b⟩ := h2 j u e; exact ⟨u', by simpa using a, b⟩
  | [], _ :: _, h => h.elim
  | _ :: _, [], h => h.elim
theorem OLe.one {cs cs' : List Value} {sz t : Nat} {w : Bool} (h : lesC cs cs') (h1 : cs'.all oneB = true) : OLe ⟨[cs], sz, t, w⟩ ⟨[cs'], sz, t, w⟩ := by
  obtain ⟨h2, h3⟩ := h.get
  refine ⟨rfl, rfl, rfl, fun e => by simp at e, rfl, fun k e' he => ?_⟩
  cases k with
  | succ k => simp at he
  | zero =>
    simp at he; subst he
    refine ⟨cs, rfl, h2, fun j v' hv => ?_⟩
    obtain ⟨v, a, b⟩ := h3 j v' hv
    exact ⟨v, a, b, List.all_eq_true.1 h1 v' (List.mem_of_getElem? hv)⟩
theorem ObjR.le {N : Nat} {ι : Inj} {o o' : AObj} {p : Place} {w : World} (h : ObjR N ι o p w) (hl : OLe o o') : ObjR N ι o' p w where
  sz := h.sz.trans hl.sz.symm
  pos := by rw [hl.sz]; exact h.pos
  cap := by rw [hl.len]; exact h.cap
  len := fun k e' he => by
    obtain ⟨e, h1, h2, _⟩ := hl.el k e' he
    rw [h2, hl.sz]; exact h.len k e h1
  cell := fun k e' he j v' hv => by
    obtain ⟨e, h1, _, h3⟩ := hl.el k e' he
    obtain ⟨v, g1, g2, g3⟩ := h3 j v' hv
    obtain ⟨x, f1, f2, f3⟩ := h.cell k e h1 j v g1
    exact ⟨x, f1, g2 _ _ f2, g3⟩
  own' := fun hw => by
    rw [hl.w] at hw
    rcases h.own' hw with g | g
    · exact .inl ⟨hl.nil g.1, g.2⟩
    · rw [hl.t, hl.sz]; exact .inr g
theorem Rel.le {D : Den} {N : Nat} {w0 w : World} {ι : Inj} {σ : Store} (h : Rel D N w0 ι σ w) {j : Nat} {ob ob' : AObj} (hj : σ j = some ob) (hl : OLe ob ob') : Rel D N w0 ι (app [(j, some ob')] σ) w where
  below := h.below
  size := h.size
  obj := fun i o e => by
    by_cases hi : i = j
    · subst hi
      rw [show app [(i, some ob')] σ i = some ob' by simp [app]] at e
      injection e with e
      subst e
      obtain ⟨p, h1, h2, h3⟩ := h.obj i ob hj
      exact ⟨p, h1, h2.imp (fun g => ⟨hl.nil g.1, g.2⟩) (fun g => g), h3.le hl⟩
    · rw [show app [(j, some ob')] σ i = σ i by simp [app, hi]] at e
      exact h.obj i o e
  sep := fun i i' o o' p p' e e' hp hp' hne hw => by
    have key : ∀ (x : Nat) (q : AObj), app [(j, some ob')] σ x = some q → ∃ q', σ x = some q' ∧ q'.w = q.w ∧ (q'.es = [] → q.es = []) := fun x q e => by
      by_cases hi : x = j
      · subst hi
        rw [show app [(x, some ob')] σ x = some ob' by simp [app]] at e
        injection e with e
        subst e
        exact ⟨ob, hj, hl.w.symm, hl.nil⟩
      · rw [show app [(j, some ob')] σ x = σ x by simp [app, hi]] at e
        exact ⟨q, e, rfl, fun g => g⟩
    obtain ⟨q, g1, g2, g5⟩ := key i o e
    obtain ⟨q', g3, g4, g6⟩ := key i' o' e'
    exact (h.sep i i' q q' p p' g1 g3 hp hp' hne (by rw [g2]; exact hw)).imp (fun g => ⟨g5 g.1, g.2⟩) (Or.imp (fun g => ⟨g6 g.1, g.2⟩) (fun g => g))
  den := h.den
section
variable {P : Program} {E : Env} {m : Nat} {c : Code} {τ τ' : Tm} {n n' : Nat} {σ : Store} {x : AX} {d : Delta} {b : Nat} {D : Delta} {Q : Post}
theorem CR.ole {j : Nat} {ob ob' : AObj} (hj : σ j = some ob) (hl : OLe ob ob') (h : CR P E m c τ n (app [(j, some ob')] σ) x τ' n' d) : CR P E m c τ n σ x τ' n' (d ++ [(j, some ob')]) := by
  refine ⟨⟨h.keys.1, fun i hi => ?_⟩, fun N w0 σ2 ι w a Q hs hR hT hm hdf hf hQ => ?_⟩
  · rw [keys_append, List.mem_append] at hi
    by_cases he : i = j
    · subst he; left; rw [hj]; rfl
    · rcases hi with hi | hi
      · have := h.keys.2 i hi
        rw [show app [(j, some ob')] σ i = σ i by simp [app, he]] at this
        exact this
      · simp [Go.Proofs.YtgajcmanompmcaaV.keys] at hi; exact absurd hi he
  · refine h.run N w0 (app [(j, some ob')] σ2) ι w a Q (hs.app _) (hR.le (hs j ob hj) hl) hT hm hdf hf fun κ w' a' hend => hQ κ w' a' ⟨hend.1, hend.2.1, ?_⟩
    rw [app_append]
    exact hend.2.2
theorem CR.leT {τ1 : Tm} (hv : ∀ t, VLe (τ t) (τ1 t)) (h : CR P E m c τ1 n σ x τ' n' d) : CR P E m c τ n σ x τ' n' d :=
  ⟨h.keys, fun N w0 σ2 ι w a Q hs hR hT hm hdf hf hQ => h.run N w0 σ2 ι w a Q hs hR (fun t => hv t _ _ (hT t)) hm hdf hf hQ⟩
theorem CR.ph {sz t : Nat} (hpos : 0 < sz) (h : CR P E m c τ (n + 1) (app [(n, some ⟨[], sz, t, true⟩)] σ) x τ' n' d) : CR P E m c τ n σ x τ' n' (d ++ [(n, some ⟨[], sz, t, true⟩)]) := by
  have b1 := h.keys.1
  refine ⟨⟨by omega, fun i hi => ?_⟩, fun N w0 σ2 ι w a Q hs hR hT hm hdf hf hQ => ?_⟩
  · rw [keys_append, List.mem_append] at hi
    by_cases he : i = n
    · subst he; right; exact ⟨Nat.le_refl _, by omega⟩
    · rcases hi with hi | hi
      · rcases h.keys.2 i hi with g | g
        · rw [show app [(n, some ⟨[], sz, t, true⟩)] σ i = σ i by simp [app, he]] at g
          exact .inl g
        · exact .inr ⟨by omega, g.2⟩
      · simp [Go.Proofs.YtgajcmanompmcaaV.keys] at hi; exact absurd hi he
  · have hfr := hf n (Nat.le_refl _) (by omega)
    have hle := Inj.set_le hfr ⟨0, 0, sz, 0, none⟩
    refine h.run N w0 (app [(n, some ⟨[], sz, t, true⟩)] σ2) (ι.set n ⟨0, 0, sz, 0, none⟩) w a Q (hs.app _) (rel_ph hR hfr t hpos) (fun t => (hT t).mono hle) hm hdf (fun i i1 i2 => ?_) fun κ w' a' hend => hQ κ w' a' ⟨Inj.le_trans hle hend.1, fun i hi => ?_, ?_⟩
    · unfold Inj.set; rw [if_neg (by omega)]; exact hf i (by omega) i2
    · by_cases he : i = n
      · subst he; exact ⟨Nat.le_refl _, by omega⟩
      · have := hend.2.1 i (by unfold Inj.set; rw [if_neg he]; exact hi)
        omega
    · rw [app_append]
      exact hend.2.2
theorem RA.le {j : Nat} {ob ob' : AObj} (hj : app D σ j = some ob) (hl : OLe ob ob') (h : RA P E b σ m c τ n ((j, some ob') :: D) Q) : RA P E b σ m c τ n D Q := by
  obtain ⟨x, τ', n', e, D', h1, h2, h3⟩ := h
  refine ⟨x, τ', n', e ++ [(j, some ob')], D', CR.ole hj hl h1, ?_, h3⟩
  rw [List.append_assoc]
  exact h2
theorem RA.leT {t : Nat} {v v' : Value} (ht : τ t = v) (hv : VLe v v') (h : RA P E b σ m c (upd τ (some t) v') n D Q) : RA P E b σ m c τ n D Q := by
  obtain ⟨x, τ', n', e, D', h1, h2, h3⟩ := h
  refine ⟨x, τ', n', e, D', CR.leT (fun s => ?_) h1, h2, h3⟩
  by_cases hs : s = t
  · subst hs; simp only [upd, if_true]; rw [ht]; exact hv
  · simp only [upd, if_neg hs]; exact VLe.refl _
theorem RA.ph {sz t : Nat} (hpos : 0 < sz) (h : RA P E b σ m c τ (n + 1) ((n, some ⟨[], sz, t, true⟩) :: D) Q) : RA P E b σ m c τ n D Q := by
  obtain ⟨x, τ', n', e, D', h1, h2, h3⟩ := h
  refine ⟨x, τ', n', e ++ [(n, some ⟨[], sz, t, true⟩)], D', CR.ph hpos h1, ?_, h3⟩
  rw [List.append_assoc]
  exact h2
/-! calls -/
variable {Dn : Den} {f : Nat} {args args2 : List Value} {v v2 : Value}
theorem SC.less_args (ha : VLes args args2) (h : SC P Dn f args2 n σ v n' d) : SC P Dn f args n σ v n' d :=
  ⟨h.1, h.2.1, fun N w0 σ2 ι w args' R hs hR hargs hf hK => h.2.2 N w0 σ2 ι w args' R hs hR (ha _ _ hargs) hf hK⟩
theorem SC.val (hv : VLe v v2) (h : SC P Dn f args n σ v n' d) : SC P Dn f args n σ v2 n' d :=
  ⟨h.1, h.2.1, fun N w0 σ2 ι w args' R hs hR hargs hf hK => h.2.2 N w0 σ2 ι w args' R hs hR hargs hf fun κ w' v' hend hv' => hK κ w' v' hend (hv _ _ hv')⟩
theorem SC.le {j : Nat} {ob ob' : AObj} (h : SC P Dn f args n σ v n' d) (hj : app d σ j = some ob) (hl : OLe ob ob') : SC P Dn f args n σ v n' ((j, some ob') :: d) := by
  refine ⟨h.1, ⟨h.2.1.1, fun i hi => ?_⟩, fun N w0 σ2 ι w args' R hs hR hargs hf hK => h.2.2 N w0 σ2 ι w args' R hs hR hargs hf fun κ w' v' hend hv => hK κ w' v' ⟨hend.1, hend.2.1, ?_⟩ hv⟩
  · by_cases hm : i ∈ keys d
    · exact h.2.1.2 i hm
    · have : i = j := by
        simp only [keys, List.map_cons, List.mem_cons] at hi
        exact hi.resolve_right hm
      subst this
      rw [app_off hm] at hj
      left; rw [hj]; rfl
  · have := hend.2.2.le (j := j) (ob := ob) (Sub.app hs d j ob hj) hl
    rw [← app_append] at this
    exact this
theorem CQ.less_args {Q : Value → Nat → Delta → Prop} (ha : VLes args args2) (h : CQ P Dn f args2 n σ Q) : CQ P Dn f args n σ Q := by
  obtain ⟨v, n', d, h1, h2⟩ := h
  exact ⟨v, n', d, h1.less_args ha, h2⟩
theorem CQ.val {Q R : Value → Nat → Delta → Prop} (h : CQ P Dn f args n σ Q) (hQ : ∀ v n' d, Q v n' d → ∃ v2, VLe v v2 ∧ R v2 n' d) : CQ P Dn f args n σ R := by
  obtain ⟨v, n', d, h1, h2⟩ := h
  obtain ⟨v2, h3, h4⟩ := hQ v n' d h2
  exact ⟨v2, n', d, h1.val h3, h4⟩
theorem CQ.le {Q R : Value → Nat → Delta → Prop} (h : CQ P Dn f args n σ Q) (hQ : ∀ v n' d, Q v n' d → ∃ j ob ob', app d σ j = some ob ∧ OLe ob ob' ∧ R v n' ((j, some ob') :: d)) : CQ P Dn f args n σ R := by
  obtain ⟨v, n', d, h1, h2⟩ := h
  obtain ⟨j, ob, ob', h3, h4, h5⟩ := hQ v n' d h2
  exact ⟨v, n', _, h1.le h3 h4, h5⟩
/-- A call at a slice that may be nil: it makes a row of it, or nil of nil. -/
theorem CQ.orNil {α : Type} {c : α → List Value} {l : List α} {rest : List Value} {j off N sz t : Nat} (h0 : CQ P Dn f (.slice (some ⟨j, off, none⟩) N 0 :: rest) n σ (fun v n' d => ∃ i, n ≤ i ∧ i < n' ∧ v = .slice (some ⟨i, 0, none⟩) N 0 ∧ d = [(i, some ⟨l.map c, sz, t, true⟩)])) (hl : N = 0 → l = []) (hsz : 0 < sz) (h1 : CQ P Dn f (.slice none 0 0 :: rest) n σ (fun v n' d => v = .slice none 0 0 ∧ n' = n ∧ d = [])) :
    CQ P Dn f (.slice (some ⟨j, off, none⟩) N 2 :: rest) n σ (fun v n' d => ∃ i, n ≤ i ∧ i < n' ∧ v = .slice (some ⟨i, 0, none⟩) N 2 ∧ d = [(i, some ⟨l.map c, sz, t, true⟩)]) := by
  obtain ⟨_, n', _, h0, q, q1, q2, rfl, rfl⟩ := h0
  obtain ⟨_, _, _, h1, rfl, rfl, rfl⟩ := h1
  refine ⟨_, n', _, ⟨h0.1, h0.2.1, fun N0 w0 σ2 ι w args' R hs hR hargs hf hK => ?_⟩, q, q1, q2, rfl, rfl⟩
  cases hargs with | cons hv hr =>
  cases hv with
  | sliceM h hc => exact h0.2.2 N0 w0 σ2 ι w _ R hs hR (.cons (.slice h hc) hr) hf fun κ w' v' hend hv' => hK κ w' v' hend (vle_row _ _ _ _ _ hv')
  | sliceMZ h hc => exact h0.2.2 N0 w0 σ2 ι w _ R hs hR (.cons (.sliceZ h hc) hr) hf fun κ w' v' hend hv' => hK κ w' v' hend (vle_row _ _ _ _ _ hv')
  | sliceMN =>
    have e := hl rfl
    subst e
    refine h1.2.2 N0 w0 σ2 ι w _ R hs hR (.cons .sliceNil hr) (fun i a b => by omega) fun κ w' v' hend hv' => ?_
    cases hv'
    have hk : κ q = none := by
      by_cases e : κ q = ι q
      · rw [e]; exact hf q q1 q2
      · have := hend.2.1 q e; omega
    have hle := Inj.set_le hk ⟨0, 0, sz, 0, none⟩
    refine hK (κ.set q ⟨0, 0, sz, 0, none⟩) w' _ ⟨Inj.le_trans hend.1 hle, fun i hi => ?_, rel_ph hend.2.2 hk t hsz⟩ .sliceMN
    by_cases he : i = q
    · subst he; exact ⟨q1, q2⟩
    · have := hend.2.1 i (by intro e; apply hi; unfold Inj.set; rw [if_neg he]; exact e)
      omega
/-- Behind a call, its result told less sharply; then objects that lie nowhere yet. -/
theorem SC.ph {sz t : Nat} (hpos : 0 < sz) (hd : Dom n σ) (h : SC P Dn f args n σ v n' d) : SC P Dn f args n σ v (n' + 1) ((n', some ⟨[], sz, t, true⟩) :: d) := by
  have b1 := h.2.1.1
  refine ⟨h.1, ⟨by omega, fun i hi => ?_⟩, fun N w0 σ2 ι w args' R hs hR hargs hf hK => h.2.2 N w0 σ2 ι w args' R hs hR hargs (fun i i1 i2 => hf i i1 (by omega)) fun κ w' v' hend hv => ?_⟩
  · simp only [keys, List.map_cons, List.mem_cons] at hi
    rcases hi with rfl | hi
    · exact .inr ⟨b1, by omega⟩
    · rcases h.2.1.2 i hi with g | g
      · exact .inl g
      · exact .inr ⟨g.1, by omega⟩
  · have hk : κ n' = none := by
      by_cases e : κ n' = ι n'
      · rw [e]; exact hf n' b1 (by omega)
      · have := hend.2.1 n' e; omega
    have hle := Inj.set_le hk ⟨0, 0, sz, 0, none⟩
    refine hK (κ.set n' ⟨0, 0, sz, 0, none⟩) w' v' ⟨Inj.le_trans hend.1 hle, fun i hi => ?_, rel_ph hend.2.2 hk t hpos⟩ (hv.mono hle)
    by_cases he : i = n'
    · subst he; exact ⟨b1, by omega⟩
    · have := hend.2.1 i (by intro e; apply hi; unfold Inj.set; rw [if_neg he]; exact e)
      omega
theorem CQ.ph {Q R : Value → Nat → Delta → Prop} {sz t : Nat} (hpos : 0 < sz) (hd : Dom n σ) (h : CQ P Dn f args n σ Q) (hQ : ∀ v n' d, Q v n' d → R v (n' + 1) ((n', some ⟨[], sz, t, true⟩) :: d)) : CQ P Dn f args n σ R := by
  obtain ⟨v, n', d, h1, h2⟩ := h
  exact ⟨v, n' + 1, _, h1.ph hpos hd, hQ _ _ _ h2⟩
end
/-- An object's elements from one on go to a new object; nobody asks for the old one any more. -/
theorem rel_move {D : Den} {N : Nat} {w0 w : World} {ι : Inj} {σ : Store} (hR : Rel D N w0 ι σ w) {j q o : Nat} {ob : AObj} {p : Place} (hj : σ j = some ob) (hp : ι j = some p) (hq : ι q = none) : Rel D N w0 (ι.set q ⟨p.b, p.off + o * p.sz, p.sz, p.cap - o, none⟩) (app [(q, some ⟨ob.es.drop o, ob.sz, ob.t, ob.w⟩), (j, none)] σ) w := by
  have hle := Inj.set_le hq ⟨p.b, p.off + o * p.sz, p.sz, p.cap - o, none⟩
  obtain ⟨p0, g1, g2, g3⟩ := hR.obj j ob hj
  rw [hp] at g1; cases g1
  have hnj : q ≠ j := fun e => by rw [e, hp] at hq; cases hq
  have hcap := g3.cap
  have hph : Ph ob p → Ph ⟨ob.es.drop o, ob.sz, ob.t, ob.w⟩ ⟨p.b, p.off + o * p.sz, p.sz, p.cap - o, none⟩ := fun g => ⟨by show ob.es.drop o = []; rw [g.1]; exact List.drop_nil, by show p.cap - o = 0; rw [g.2]; omega⟩
  have hkeys : ∀ i x, app [(q, some (⟨ob.es.drop o, ob.sz, ob.t, ob.w⟩ : AObj)), (j, none)] σ i = some x → (i = q ∧ x = ⟨ob.es.drop o, ob.sz, ob.t, ob.w⟩) ∨ (i ≠ q ∧ i ≠ j ∧ σ i = some x) := by
    intro i x e
    simp only [app] at e
    split at e
    · rename_i hi; cases e; exact .inl ⟨hi, rfl⟩
    · split at e
      · cases e
      · exact .inr ⟨‹_›, ‹_›, e⟩
  have at_old : ∀ {i : Nat} {r : Place}, i ≠ q → ι.set q ⟨p.b, p.off + o * p.sz, p.sz, p.cap - o, none⟩ i = some r → ι i = some r := fun hi h => by
    unfold Inj.set at h; rwa [if_neg hi] at h
  have at_new : ∀ {r : Place}, ι.set q ⟨p.b, p.off + o * p.sz, p.sz, p.cap - o, none⟩ q = some r → r = ⟨p.b, p.off + o * p.sz, p.sz, p.cap - o, none⟩ := fun h => by rw [Inj.set_self] at h; cases h; rfl
  refine ⟨hR.below, hR.size, fun i x e => ?_, fun i k x x' r r' e1 e2 f1 f2 hik hwx => ?_, fun c v e => by obtain ⟨r, h1, h2⟩ := hR.den c v e; exact ⟨r, hle _ _ h1, h2⟩⟩
  · rcases hkeys i x e with ⟨rfl, rfl⟩ | ⟨h1, h2, h3⟩
    · refine ⟨_, Inj.set_self _ _ _, g2.imp hph (fun g => g), g3.sz, g3.pos, by show (ob.es.drop o).length ≤ p.cap - o; rw [List.length_drop]; omega, fun k e he => ?_, fun k e he jj v hv => ?_, fun hw => ?_⟩
      · rw [show (AObj.es ⟨ob.es.drop o, ob.sz, ob.t, ob.w⟩) = ob.es.drop o from rfl, List.getElem?_drop] at he
        exact g3.len _ e he
      · rw [show (AObj.es ⟨ob.es.drop o, ob.sz, ob.t, ob.w⟩) = ob.es.drop o from rfl, List.getElem?_drop] at he
        obtain ⟨v', f1, f2, f3⟩ := g3.cell _ e he jj v hv
        refine ⟨v', ?_, f2.mono hle, f3⟩
        rw [Nat.add_mul, ← Nat.add_assoc p.off] at f1
        exact f1
      · by_cases ho : o ≤ p.cap
        · rcases g3.own' hw with g | ⟨h1, arr, fz, h2, h3, h4⟩
          · exact .inl (hph g)
          · refine .inr ⟨h1, arr, fz, h2, ?_, h4⟩
            show p.off + o * p.sz + (p.cap - o) * p.sz ≤ arr.size
            rw [Nat.add_assoc, ← Nat.add_mul, show o + (p.cap - o) = p.cap by omega]
            exact h3
        · exact .inl ⟨by show ob.es.drop o = []; exact List.drop_of_length_le (by omega), by show p.cap - o = 0; omega⟩
    · obtain ⟨r, f1, f2, f3⟩ := hR.obj i x h3
      exact ⟨r, hle _ _ f1, f2, f3.keep hle (.inr rfl)⟩
  · rcases hkeys i x e1 with ⟨rfl, rfl⟩ | ⟨h1, h2, h3⟩ <;> rcases hkeys k x' e2 with ⟨rfl, rfl⟩ | ⟨k1, k2, k3⟩
    · exact absurd rfl hik
    · have := at_new f1
      subst this
      exact (hR.sep j k ob x' p r' hj k3 hp (at_old k1 f2) (fun e => k2 e.symm) hwx).imp hph (fun g => g)
    · have := at_new f2
      subst this
      exact (hR.sep i j x ob r p h3 hj (at_old h1 f1) hp h2 hwx).imp (fun g => g) (Or.imp hph (fun g => g))
    · exact hR.sep i k x x' r r' h3 k3 (at_old h1 f1) (at_old k1 f2) hik hwx
/-- Objects, told otherwise where their numbers stand for the same. -/
structure OLeI (ι : Inj) (o o' : AObj) : Prop where
  sz : o'.sz = o.sz
  t : o'.t = o.t
  w : o'.w = o.w
  nil : o.es = [] → o'.es = []
  len : o'.es.length = o.es.length
  el : ∀ (k : Nat) (e' : List Value), o'.es[k]? = some e' → ∃ e : List Value, o.es[k]? = some e ∧ e'.length = e.length ∧ ∀ (j : Nat) (v' : Value), e'[j]? = some v' → ∃ v, e[j]? = some v ∧ (∀ x, VR ι v x → VR ι v' x) ∧ oneB v' = true
theorem ObjR.leI {N : Nat} {ι : Inj} {o o' : AObj} {p : Place} {w : World} (h : ObjR N ι o p w) (hl : OLeI ι o o') : ObjR N ι o' p w where
  sz := h.sz.trans hl.sz.symm
  pos := by rw [hl.sz]; exact h.pos
  cap := by rw [hl.len]; exact h.cap
  len := fun k e' he => by
    obtain ⟨e, h1, h2, _⟩ := hl.el k e' he
    rw [h2, hl.sz]; exact h.len k e h1
  cell := fun k e' he j v' hv => by
    obtain ⟨e, h1, _, h3⟩ := hl.el k e' he
    obtain ⟨v, g1, g2, g3⟩ := h3 j v' hv
    obtain ⟨x, f1, f2, f3⟩ := h.cell k e h1 j v g1
    exact ⟨x, f1, g2 _ f2, g3⟩
  own' := fun hw => by
    rw [hl.w] at hw
    rcases h.own' hw with g | g
    · exact .inl ⟨hl.nil g.1, g.2⟩
    · rw [hl.t, hl.sz]; exact .inr g
theorem Rel.leI {D : Den} {N : Nat} {w0 w : World} {ι : Inj} {σ : Store} (h : Rel D N w0 ι σ w) {j : Nat} {ob ob' : AObj} (hj : σ j = some ob) (hl : OLeI ι ob ob') : Rel D N w0 ι (app [(j, some ob')] σ) w where
  below := h.below
  size := h.size
  obj := fun i o e => by
    by_cases hi : i = j
    · subst hi
      rw [show app [(i, some ob')] σ i = some ob' by simp [app]] at e
      injection e with e
      subst e
      obtain ⟨p, h1, h2, h3⟩ := h.obj i ob hj
      exact ⟨p, h1, h2.imp (fun g => ⟨hl.nil g.1, g.2⟩) (fun g => g), h3.leI hl⟩
    · rw [show app [(j, some ob')] σ i = σ i by simp [app, hi]] at e
      exact h.obj i o e
  sep := fun i i' o o' p p' e e' hp hp' hne hw => by
    have key : ∀ (x : Nat) (q : AObj), app [(j, some ob')] σ x = some q → ∃ q', σ x = some q' ∧ q'.w = q.w ∧ (q'.es = [] → q.es = []) := fun x q e => by
      by_cases hi : x = j
      · subst hi
        rw [show app [(x, some ob')] σ x = some ob' by simp [app]] at e
        injection e with e
        subst e
        exact ⟨ob, hj, hl.w.symm, hl.nil⟩
      · rw [show app [(j, some ob')] σ x = σ x by simp [app, hi]] at e
        exact ⟨q, e, rfl, fun g => g⟩
    obtain ⟨q, g1, g2, g5⟩ := key i o e
    obtain ⟨q', g3, g4, g6⟩ := key i' o' e'
    exact (h.sep i i' q q' p p' g1 g3 hp hp' hne (by rw [g2]; exact hw)).imp (fun g => ⟨g5 g.1, g.2⟩) (Or.imp (fun g => ⟨g6 g.1, g.2⟩) (fun g => g))
  den := h.den
/-- A row's part that one cell shows becomes a row of its own. -/
theorem rel_reoff {Dn : Den} {N : Nat} {w0 w : World} {κ : Inj} {τ : Store} (hR : Rel Dn N w0 κ τ w) {s j o len idx sz t n' : Nat} {wr : Bool} {ob : AObj} {cs : List Value} (hs2 : τ s = some ⟨[cs], sz, t, wr⟩) (hj2 : τ j = some ob) (hsj : s ≠ j) (hidx : cs[idx]? = some (.slice (some ⟨j, o, none⟩) len 2)) (hk : κ n' = none) :
    ∃ p', Rel Dn N w0 (κ.set n' p') (app [(s, some ⟨[cs.set idx (.slice (some ⟨n', 0, none⟩) len 2)], sz, t, wr⟩), (n', some ⟨ob.es.drop o, ob.sz, ob.t, ob.w⟩), (j, none)] τ) w := by
  obtain ⟨p, g1, g2, g3⟩ := hR.obj j ob hj2
  have hle := Inj.set_le hk ⟨p.b, p.off + o * p.sz, p.sz, p.cap - o, none⟩
  have hsn : s ≠ n' := fun e => by
    obtain ⟨ps, h1, _⟩ := hR.obj s _ hs2
    rw [e, hk] at h1; cases h1
  have h1 := rel_move hR (o := o) hj2 g1 hk
  refine ⟨_, h1.leI (j := s) (ob := ⟨[cs], sz, t, wr⟩) (ob' := ⟨[cs.set idx (.slice (some ⟨n', 0, none⟩) len 2)], sz, t, wr⟩) (by simp only [app, if_neg hsn, if_neg hsj]; exact hs2) ⟨rfl, rfl, rfl, fun e => by simp at e, rfl, fun k e' he => ?_⟩⟩
  cases k with
  | succ k => simp at he
  | zero =>
    simp at he; subst he
    refine ⟨cs, rfl, List.length_set .., fun jj v' hv' => ?_⟩
    rw [List.getElem?_set] at hv'
    split at hv'
    · rename_i hjj
      subst hjj
      split at hv'
      · cases hv'
        refine ⟨_, hidx, fun x hx => ?_, rfl⟩
        cases hx with
        | sliceM hp hc =>
          rw [hle _ _ g1] at hp; cases hp
          exact VR_slice2 (Inj.set_self _ _ _) (by show 0 + len ≤ p.cap - o; omega) rfl (by show p.off + o * p.sz = p.off + o * p.sz + 0 * p.sz; omega) (by show p.cap - o = p.cap - o - 0; omega)
        | sliceMZ hp hc =>
          rw [hle _ _ g1] at hp; cases hp
          exact .sliceMZ (Inj.set_self _ _ _) (by show p.cap - o ≤ 0; omega)
        | sliceMN => exact .sliceMN
      · cases hv'
    · obtain ⟨ps, q1, q2, q3⟩ := hR.obj s _ hs2
      obtain ⟨_, _, _, q4⟩ := q3.cell 0 cs rfl jj v' hv'
      exact ⟨v', hv', fun x hx => hx, q4⟩
/-- Behind a call: a row's part that one cell shows becomes a row of its own. -/
theorem SC.reoff {P : Program} {Dn : Den} {f : Nat} {args : List Value} {n n' : Nat} {σ : Store} {v : Value} {d : Delta} (h : SC P Dn f args n σ v n' d) {s j o len idx sz t : Nat} {wr : Bool} {ob : AObj} {cs : List Value} (hs : app d σ s = some ⟨[cs], sz, t, wr⟩) (hj : app d σ j = some ob) (hsj : s ≠ j) (hidx : cs[idx]? = some (.slice (some ⟨j, o, none⟩) len 2)) :
    SC P Dn f args n σ v (n' + 1) ((s, some ⟨[cs.set idx (.slice (some ⟨n', 0, none⟩) len 2)], sz, t, wr⟩) :: (n', some ⟨ob.es.drop o, ob.sz, ob.t, ob.w⟩) :: (j, none) :: d) := by
  have b1 := h.2.1.1
  have old : ∀ {i : Nat} {x : AObj}, app d σ i = some x → i ∈ keys d ∨ (σ i).isSome = true := fun {i x} e => by
    by_cases hm : i ∈ keys d
    · exact .inl hm
    · rw [app_off hm] at e; rw [e]; exact .inr rfl
  refine ⟨h.1, ⟨by omega, fun i hi => ?_⟩, fun N w0 σ2 ι w args' R hsub hR hargs hf hK => h.2.2 N w0 σ2 ι w args' R hsub hR hargs (fun i i1 i2 => hf i i1 (by omega)) fun κ w' v' hend hv => ?_⟩
  · simp only [keys, List.map_cons, List.mem_cons] at hi
    have fin : i ∈ keys d ∨ (σ i).isSome = true → (σ i).isSome = true ∨ n ≤ i ∧ i < n' + 1 := fun g => by
      rcases g with g | g
      · rcases h.2.1.2 i g with g | g
        · exact .inl g
        · exact .inr ⟨g.1, by omega⟩
      · exact .inl g
    rcases hi with rfl | rfl | rfl | hi
    · exact fin (old hs)
    · exact .inr ⟨b1, by omega⟩
    · exact fin (old hj)
    · exact fin (.inl hi)
  · have hk : κ n' = none := by
      by_cases e : κ n' = ι n'
      · rw [e]; exact hf n' b1 (by omega)
      · have := hend.2.1 n' e; omega
    obtain ⟨p', h2⟩ := rel_reoff hend.2.2 (Sub.app hsub d s _ hs) (Sub.app hsub d j ob hj) hsj hidx hk
    have hle := Inj.set_le hk p'
    refine hK _ w' v' ⟨Inj.le_trans hend.1 hle, fun i hi => ?_, h2⟩ (hv.mono hle)
    by_cases he : i = n'
    · subst he; exact ⟨b1, by omega⟩
    · have := hend.2.1 i (by intro e; apply hi; unfold Inj.set; rw [if_neg he]; exact e)
      omega
theorem CR.reoff {P : Program} {E : Env} {m : Nat} {c : Code} {τ τ' : Tm} {n n' : Nat} {σ : Store} {x : AX} {d : Delta} {s j o len idx sz t : Nat} {wr : Bool} {ob : AObj} {cs : List Value} (hs : σ s = some ⟨[cs], sz, t, wr⟩) (hj : σ j = some ob) (hsj : s ≠ j) (hidx : cs[idx]? = some (.slice (some ⟨j, o, none⟩) len 2))
    (h : CR P E m c τ (n + 1) (app [(s, some ⟨[cs.set idx (.slice (some ⟨n, 0, none⟩) len 2)], sz, t, wr⟩), (n, some ⟨ob.es.drop o, ob.sz, ob.t, ob.w⟩), (j, none)] σ) x τ' n' d) : CR P E m c τ n σ x τ' n' (d ++ [(s, some ⟨[cs.set idx (.slice (some ⟨n, 0, none⟩) len 2)], sz, t, wr⟩), (n, some ⟨ob.es.drop o, ob.sz, ob.t, ob.w⟩), (j, none)]) := by
  have b1 := h.keys.1
  refine ⟨⟨by omega, fun i hi => ?_⟩, fun N w0 σ2 ι w a Q hs' hR hT hm hdf hf hQ => ?_⟩
  · rw [keys_append, List.mem_append] at hi
    by_cases he : i = n
    · subst he; right; exact ⟨Nat.le_refl _, by omega⟩
    by_cases h2 : i = s
    · subst h2; left; rw [hs]; rfl
    by_cases h3 : i = j
    · subst h3; left; rw [hj]; rfl
    rcases hi with hi | hi
    · rcases h.keys.2 i hi with g | g
      · simp only [app, if_neg he, if_neg h2, if_neg h3] at g
        exact .inl g
      · exact .inr ⟨by omega, g.2⟩
    · simp [Go.Proofs.YtgajcmanompmcaaV.keys, he, h2, h3] at hi
  · have hfr := hf n (Nat.le_refl _) (by omega)
    obtain ⟨p', hR2⟩ := rel_reoff hR (hs' s _ hs) (hs' j ob hj) hsj hidx hfr
    have hle := Inj.set_le hfr p'
    refine h.run N w0 _ (ι.set n p') w a Q (hs'.app _) hR2 (fun t => (hT t).mono hle) hm hdf (fun i i1 i2 => ?_) fun κ w' a' hend => hQ κ w' a' ⟨Inj.le_trans hle hend.1, fun i hi => ?_, ?_⟩
    · unfold Inj.set; rw [if_neg (by omega)]; exact hf i (by omega) i2
    · by_cases he : i = n
      · subst he; exact ⟨Nat.le_refl _, by omega⟩
      · have := hend.2.1 i (by unfold Inj.set; rw [if_neg he]; exact hi)
        omega
    · rw [app_append]
      exact hend.2.2
theorem RA.reoff {P : Program} {E : Env} {m : Nat} {c : Code} {τ : Tm} {n b : Nat} {σ : Store} {D : Delta} {Q : Post} {s j o len idx sz t : Nat} {wr : Bool} {ob : AObj} {cs cs' : List Value} (hs : app D σ s = some ⟨[cs], sz, t, wr⟩) (hj : app D σ j = some ob) (hsj : s ≠ j) (hidx : cs[idx]? = some (.slice (some ⟨j, o, none⟩) len 2)) (hcs : cs.set idx (.slice (some ⟨n, 0, none⟩) len 2) = cs') {ob' : AObj} (hob : (⟨ob.es.drop o, ob.sz, ob.t, ob.w⟩ : AObj) = ob')
    (h : RA P E b σ m c τ (n + 1) ((s, some ⟨[cs'], sz, t, wr⟩) :: (n, some ob') :: (j, none) :: D) Q) : RA P E b σ m c τ n D Q := by
  subst hcs
  subst hob
  obtain ⟨x, τ', n', e, D', h1, h2, h3⟩ := h
  refine ⟨x, τ', n', _, D', CR.reoff hs hj hsj hidx h1, ?_, h3⟩
  rw [List.append_assoc]
  exact h2
theorem CQ.reoff {P : Program} {Dn : Den} {f : Nat} {args : List Value} {n : Nat} {σ : Store} {Q R : Value → Nat → Delta → Prop} (h : CQ P Dn f args n σ Q) (hQ : ∀ v n' d, Q v n' d → n ≤ n' → ∃ s j o len idx sz t wr ob cs, app d σ s = some ⟨[cs], sz, t, wr⟩ ∧ app d σ j = some ob ∧ s ≠ j ∧ cs[idx]? = some (.slice (some ⟨j, o, none⟩) len 2) ∧ R v (n' + 1) ((s, some ⟨[cs.set idx (.slice (some ⟨n', 0, none⟩) len 2)], sz, t, wr⟩) :: (n', some ⟨ob.es.drop o, ob.sz, ob.t, ob.w⟩) :: (j, none) :: d)) : CQ P Dn f args n σ R := by
  obtain ⟨v, n', d, h1, h2⟩ := h
  obtain ⟨s, j, o, len, idx, sz, t, wr, ob, cs, g1, g2, g3, g4, g5⟩ := hQ v n' d h2 h1.2.1.1
  exact ⟨v, n' + 1, _, h1.reoff g1 g2 g3 g4, g5⟩
/-! ### rows that may be nil -/
section
variable {E : Env} [hP : Plain E] {τ : Tm} {o : Oper} {n : Nat} {σ : Store} {t u : Nat} {ti ui ei : TI} {α : Type} {c : α → List Value} {x : Operand}
theorem r_neg {k : IntKind} {a : Int} {ty : Nat} (ho : o.op = .unOp .neg ty x) (hx : args1 τ x = some (.int k a)) (hw : k.wrap (-a) = -a) : (aop E τ o).run n σ = some (.int k (-a), n, []) := by
  rw [aop_plain]
  unfold aop0
  simp only [ho, ev, hx]
  unfold ofSem Op.unary
  unfold Op.intArith
  simp [hw]
  rfl
theorem ro0 {l : List α} {sz ty : Nat} {w : Bool} : (⟨(AObj.mk (l.map c) sz ty w).es.drop 0, (AObj.mk (l.map c) sz ty w).sz, (AObj.mk (l.map c) sz ty w).t, (AObj.mk (l.map c) sz ty w).w⟩ : AObj) = ⟨l.map c, sz, ty, w⟩ := by rw [List.drop_zero]
theorem roD {l : List α} {k sz ty : Nat} {w : Bool} : (⟨(AObj.mk (l.map c) sz ty w).es.drop k, (AObj.mk (l.map c) sz ty w).sz, (AObj.mk (l.map c) sz ty w).t, (AObj.mk (l.map c) sz ty w).w⟩ : AObj) = ⟨(l.drop k).map c, sz, ty, w⟩ := by rw [List.map_drop]
theorem r_cut2 {lo hi : Option Operand} {vlo vhi : Option Value} {a b i off N elem q r : Nat} {ob : AObj} (ho : o.op = .slice t x lo hi none) (hx : args1 τ x = some (.slice (some ⟨i, off, none⟩) N 2)) (hlo : ∀ k, evO τ lo k = k vlo) (hhi : ∀ k, evO τ hi k = k vhi) (ht : E.ty t = some ti) (hd : ti.d = .slice elem) (he : E.ty elem = some ei) (h1 : bound vlo 0 = some a) (h2 : bound vhi N = some b) (hσ : σ i = some ob) (hs : ob.sz = ei.size) (h3 : a ≤ b) (h4 : b ≤ N) (h5 : off + N ≤ ob.es.length) (hq : off + a = q) (hr : b - a = r) : (aop E τ o).run n σ = some (.slice (some ⟨i, q, none⟩) r 2, n, []) := by
  subst hq; subst hr
  rw [aop_plain]
  unfold aop0
  have hno : ∀ k, evO τ none k = k none := fun _ => rfl
  simp only [ho, ev, hx, hlo, hhi, hno]
  simp only [aslice2, ghostOk]
  unfold aslice
  simp only [ht, hd, h1, h2, he]
  rw [if_pos (by decide)]
  unfold aslice23
  rw [if_neg (by decide), if_pos rfl]
  refine run_get hσ ?_
  rw [if_pos ⟨hs, h3, h4, h5⟩]
  rfl
/-- 's[:0:0]' -/
theorem r_cut0 {lo hi mx : Option Operand} {vlo vhi vmx : Option Value} {i off N elem : Nat} {ob : AObj} (ho : o.op = .slice t x lo hi mx) (hx : args1 τ x = some (.slice (some ⟨i, off, none⟩) N 2)) (hlo : ∀ k, evO τ lo k = k vlo) (hhi : ∀ k, evO τ hi k = k vhi) (hmx : ∀ k, evO τ mx k = k vmx) (h0 : vhi = some (.int .i64 0)) (h00 : vmx = some (.int .i64 0)) (ht : E.ty t = some ti) (hd : ti.d = .slice elem) (he : E.ty elem = some ei) (h1 : bound vlo 0 = some 0) (hσ : σ i = some ob) (hs : ob.sz = ei.size) : (aop E τ o).run n σ = some (.slice (some ⟨i, off, none⟩) 0 3, n, []) := by
  subst h0; subst h00
  rw [aop_plain]
  unfold aop0
  have h2 : bound (some (Value.int .i64 0)) N = some 0 := rfl
  simp only [ho, ev, hx, hlo, hhi, hmx]
  simp only [aslice2, ghostOk, ht, hd, h1, h2, he]
  rw [if_neg (by simp)]
  unfold aslice
  simp only [ht, hd, h1, h2, he]
  rw [if_pos (by decide)]
  unfold aslice23
  rw [if_neg (by decide), if_pos rfl]
  simp only [Option.isSome_some, and_self, if_true]
  refine run_get hσ ?_
  rw [if_pos hs]
  rfl
theorem seenL {m off K c' sz ty' : Nat} {w' : Bool} {l2 : List (List Value)} {Kf : List (List Value) → T} (hm : σ m = some ⟨l2, sz, ty', w'⟩) (hK : off + K ≤ l2.length) : (seen sz (.slice (some ⟨m, off, none⟩) K c') Kf).run n σ = (Kf ((l2.drop off).take K)).run n σ := by
  unfold seen
  simp only
  by_cases h : K = 0
  · subst h; simp
  · rw [if_neg h]
    simp only [T.run, hm]
    rw [if_pos ⟨trivial, by rw [List.length_take, List.length_drop]; omega⟩]
/-- 'append(a, b...)' at a row that may be nil. -/
theorem r_append2 {cl : Call} {r : List Nat} {elem j m N M off off2 K c' ty' sz : Nat} {w' : Bool} {l l2 l' : List α} (ho : o.op = .call cl) (hc : cl.callee = .builtin .append) (hat : cl.argTypes.toList = t :: u :: r) (ha : evL τ cl.args.toList = some [.slice (some ⟨j, off, none⟩) N 2, .slice (some ⟨m, off2, none⟩) K c']) (ht : E.ty t = some ti) (hu : E.ty u = some ui) (hd : ti.d = .slice elem) (hud : ui.d = .slice elem) (he : E.ty elem = some ei) (hsz : ei.size = sz) (hz : 0 < sz) (hj : σ j = some ⟨l.map c, sz, elem, true⟩) (hm : σ m = some ⟨l2.map c, sz, ty', w'⟩) (hN : off + N ≤ l.length) (hK : off2 + K ≤ l2.length) (hl : (l.drop off).take N ++ (l2.drop off2).take K = l') (hs : N + K ≤ 1073741824) (hb : ei.bytes ≤ 65536) (hM : N + K = M) :
    (aop E τ o).run n σ = some (.slice (some ⟨n, 0, none⟩) M 2, n + 1, [(n, some ⟨l'.map c, sz, elem, true⟩), (j, none)]) := by
  rw [aop_plain]
  unfold aop0
  subst hM
  subst hl
  subst hsz
  simp only [ho, hc, ha, hat, abuiltin, ht, hu, hd, hud, he]
  rw [if_neg (by omega), seenL hm (by rw [List.length_map]; exact hK)]
  unfold aappend
  simp only
  rw [if_pos (by decide)]
  unfold aappend23
  rw [if_neg (by decide), if_pos rfl]
  have hl1 : (((l.map c).drop off).take N).length = N := by rw [List.length_take, List.length_drop, List.length_map]; omega
  have hl2 : (((l2.map c).drop off2).take K).length = K := by rw [List.length_take, List.length_drop, List.length_map]; omega
  refine run_get hj ?_
  rw [if_pos ⟨rfl, hl1, rfl, by rw [hl2]; simp [small, hs, hb], hz, rfl⟩]
  have e1 : ((l.map c).drop off).take N ++ ((l2.map c).drop off2).take K = ((l.drop off).take N ++ (l2.drop off2).take K).map c := by rw [List.map_append, List.map_take, List.map_drop, List.map_take, List.map_drop]
  simp only [newRow2T, T.run, e1]
  rw [← e1, List.length_append, hl1, hl2]
theorem r_append2x {cl : Call} {r : List Nat} {elem j m N M off c' ty' sz : Nat} {w' : Bool} {l l' : List α} {x : α} (ho : o.op = .call cl) (hc : cl.callee = .builtin .append) (hat : cl.argTypes.toList = t :: u :: r) (ha : evL τ cl.args.toList = some [.slice (some ⟨j, off, none⟩) N 2, .slice (some ⟨m, 0, none⟩) 1 c']) (ht : E.ty t = some ti) (hu : E.ty u = some ui) (hd : ti.d = .slice elem) (hud : ui.d = .slice elem) (he : E.ty elem = some ei) (hsz : ei.size = sz) (hz : 0 < sz) (hj : σ j = some ⟨l.map c, sz, elem, true⟩) (hm : σ m = some ⟨[c x], sz, ty', w'⟩) (hN : off + N ≤ l.length) (hl : (l.drop off).take N ++ [x] = l') (hs : N + 1 ≤ 1073741824) (hb : ei.bytes ≤ 65536) (hM : N + 1 = M) :
    (aop E τ o).run n σ = some (.slice (some ⟨n, 0, none⟩) M 2, n + 1, [(n, some ⟨l'.map c, sz, elem, true⟩), (j, none)]) :=
  r_append2 (l2 := [x]) (off2 := 0) (K := 1) ho hc hat ha ht hu hd hud he hsz hz hj hm hN (Nat.le_refl _) hl hs hb hM
/-- .. at one that has no room. -/
theorem r_append3 {cl : Call} {r : List Nat} {elem j m off off2 K c' ty' sz : Nat} {w' : Bool} {l2 l' : List α} (ho : o.op = .call cl) (hc : cl.callee = .builtin .append) (hat : cl.argTypes.toList = t :: u :: r) (ha : evL τ cl.args.toList = some [.slice (some ⟨j, off, none⟩) 0 3, .slice (some ⟨m, off2, none⟩) K c']) (ht : E.ty t = some ti) (hu : E.ty u = some ui) (hd : ti.d = .slice elem) (hud : ui.d = .slice elem) (he : E.ty elem = some ei) (hsz : ei.size = sz) (hz : 0 < sz) (hm : σ m = some ⟨l2.map c, sz, ty', w'⟩) (hK : off2 + K ≤ l2.length) (hl : (l2.drop off2).take K = l') (hs : K ≤ 1073741824) (hb : ei.bytes ≤ 65536) :
    (aop E τ o).run n σ = some (.slice (some ⟨n, 0, none⟩) K 2, n + 1, [(n, some ⟨l'.map c, sz, elem, true⟩)]) := by
  rw [aop_plain]
  unfold aop0
  subst hl
  subst hsz
  simp only [ho, hc, ha, hat, abuiltin, ht, hu, hd, hud, he]
  rw [if_neg (by omega), seenL hm (by rw [List.length_map]; exact hK)]
  unfold aappend
  simp only
  rw [if_pos (by decide)]
  unfold aappend23
  rw [if_pos rfl]
  have hl2 : (((l2.map c).drop off2).take K).length = K := by rw [List.length_take, List.length_drop, List.length_map]; omega
  rw [if_pos ⟨rfl, by rw [hl2]; simp [small, hs, hb], hz⟩]
  have e1 : ((l2.map c).drop off2).take K = ((l2.drop off2).take K).map c := by rw [List.map_take, List.map_drop]
  simp only [newRow2T, T.run, e1]
  rw [← e1, hl2]
end
end Go.Proofs.YtgajcmanompmcaaV
