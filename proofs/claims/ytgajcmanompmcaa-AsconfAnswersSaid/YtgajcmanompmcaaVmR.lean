/- The abstract machine, as a function that can be run. -/
import Derived.Test.YtgajcmanompmcaaVmQ
set_option linter.unusedVariables false
set_option linter.unusedSimpArgs false
namespace Go.Proofs.YtgajcmanompmcaaV
open Go.RowKit
abbrev XC := Nat → List Value → Nat → Store → Option (Value × Nat × Delta)
def xstep (E : Env) (X : XC) (τ : Tm) (o : Oper) (n : Nat) (σ : Store) : Option (Value × Nat × Delta) :=
  match o.op with
  | .call c => match c.callee with
    | .value f => match args1 τ f with
      | some (.func (.func g) first cap) => match evL τ c.args.toList with
        | some args => X g (first.toList ++ args ++ cap.toList) n σ
        | none => none
      | _ => none
    | _ => (aop E τ o).run n σ
  | _ => (aop E τ o).run n σ
def xops (E : Env) (X : XC) (ops : Array Oper) (m : Nat) : List Oper → Tm → Nat → Store → Option (Tm × Nat × Delta)
  | [], τ, n, σ => some (τ, n, [])
  | o :: r, τ, n, σ => if dstOk m o = true then
      (if wantA ops τ o = true then match xstep E X τ o n σ with
        | some (v, n1, d1) => match xops E X ops m r (upd τ o.dst v) n1 (app d1 σ) with
          | some (τ', n', d2) => some (τ', n', d2 ++ d1)
          | none => none
        | none => none
      else xops E X ops m r (upd τ o.dst undef) n σ) else none
/-- The keys that each operation writes, in the order of the text. -/
def xkeys (E : Env) (X : XC) (ops : Array Oper) : List Oper → Tm → Nat → Store → Option (List (List Nat))
  | [], τ, n, σ => some []
  | o :: r, τ, n, σ =>
      if wantA ops τ o = true then match xstep E X τ o n σ with
        | some (v, n1, d1) => match xkeys E X ops r (upd τ o.dst v) n1 (app d1 σ) with
          | some l => some (keys d1 :: l)
          | none => none
        | none => none
      else match xkeys E X ops r (upd τ o.dst undef) n σ with
        | some l => some ([] :: l)
        | none => none
/-- Each operation at the store that it may see: values, numbers, what is written. -/
def xpar (E : Env) (X : XC) (ops : Array Oper) (m : Nat) (σ : Store) (K : List (List Nat)) : List Oper → Tm → Nat → List Delta → Option (List (Value × Nat × Delta))
  | [], τ, n, Ds => some []
  | o :: r, τ, n, Ds => if dstOk m o = true then
      (if wantA ops τ o = true then match xstep E X τ o n (restr ops (fun i => K.getD i []) (fun i => Ds.getD i []) σ Ds.length) with
        | some (v, n1, d1) => if (keys d1).all (fun x => (K.getD Ds.length []).contains x) = true then
            match xpar E X ops m σ K r (upd τ o.dst v) n1 (Ds ++ [d1]) with
            | some l => some ((v, n1, d1) :: l)
            | none => none
          else none
        | none => none
      else match xpar E X ops m σ K r (upd τ o.dst undef) n (Ds ++ [[]]) with
        | some l => some ((undef, n, []) :: l)
        | none => none) else none
def xloop (f : Tm → Nat → Store → Option (AX × Tm × Nat × Delta)) : Nat → Tm → Nat → Store → Option (AX × Tm × Nat × Delta)
  | 0, _, _, _ => none
  | k + 1, τ, n, σ => match f τ n σ with
    | some (.normal, τ1, n1, d1) => match xloop f k τ1 n1 (app d1 σ) with
      | some (x, τ', n', d2) => some (x, τ', n', d2 ++ d1)
      | none => none
    | some (.exit i, τ1, n1, d1) => some (.exit i, τ1, n1, d1)
    | some (.ret, τ1, n1, d1) => some (.ret, τ1, n1, d1)
    | none => none
/-- The same temporaries, as a table: what lies below a loop's rounds is looked up once. -/
def tabT (m : Nat) (τ : Tm) : Tm := fun t => match ((List.range m).map τ)[t]? with
  | some v => v
  | none => τ t
theorem tabT_eq (m : Nat) (τ : Tm) : tabT m τ = τ := by
  funext t
  unfold tabT
  by_cases h : t < m
  · simp [h]
  · simp [h]
def xrun (E : Env) (X : XC) (m F : Nat) : Code → Tm → Nat → Store → Option (AX × Tm × Nat × Delta)
  | .skip, τ, n, σ => some (.normal, τ, n, [])
  | .exit i, τ, n, σ => some (.exit i, τ, n, [])
  | .ret, τ, n, σ => some (.ret, τ, n, [])
  | .region _ ops false, τ, n, σ => match xops E X ops m ops.toList τ n σ with
    | some (τ', n', d) => some (.normal, τ', n', d)
    | none => none
  | .region _ ops true, τ, n, σ => if parOk ops = true then match xkeys E X ops ops.toList τ n σ with
    | some K => match xpar E X ops m σ K ops.toList τ n [] with
      | some l => some (.normal, selT ops τ (fun i => (l.getD i (undef, 0, [])).1) allB ops.size, ((n :: l.map (·.2.1)).getD ops.size 0), selD (fun i => (l.getD i (undef, 0, [])).2.2) allB ops.size)
      | none => none
    | none => none else none
  | .seq a b, τ, n, σ => match xrun E X m F a τ n σ with
    | some (.normal, τ1, n1, d1) => match xrun E X m F b τ1 n1 (app d1 σ) with
      | some (x, τ', n', d2) => some (x, τ', n', d2 ++ d1)
      | none => none
    | some (.exit i, τ1, n1, d1) => some (.exit i, τ1, n1, d1)
    | some (.ret, τ1, n1, d1) => some (.ret, τ1, n1, d1)
    | none => none
  | .cond c a b, τ, n, σ => match args1 τ c with
    | some (.bool true) => xrun E X m F a τ n σ
    | some (.bool false) => xrun E X m F b τ n σ
    | _ => none
  | .block id c, τ, n, σ => match xrun E X m F c τ n σ with
    | some (x, τ', n', d) => some (x.inBlock id, τ', n', d)
    | none => none
  | .loop c, τ, n, σ => xloop (fun τ n σ => xrun E X m F c (tabT m τ) n σ) F τ n σ
  | _, _, _, _ => none
def xcall (E : Env) (F : Nat) : Nat → XC
  | 0 => fun _ _ _ _ => none
  | k + 1 => fun f args n σ => match E.fn f with
    | some fn => match fn.body with
      | some c => if args.length ≤ fn.ntmps then match xrun E (xcall E F k) fn.ntmps F c (init args) n σ with
          | some (.exit _, _, _, _) => none
          | some (_, τ', n', d) => match resL E τ' (app d σ) fn.results.toList with
            | some vs => some (one vs, n', d)
            | none => none
          | none => none
        else none
      | none => none
    | none => none

section
variable {E : Env} {X : XC} {C : CallRel} (hX : ∀ f args n σ v n' d, X f args n σ = some (v, n', d) → C f args n σ v n' d)
include hX
theorem xstep_sound {τ : Tm} {o : Oper} {n n' : Nat} {σ : Store} {v : Value} {d : Delta} (h : xstep E X τ o n σ = some (v, n', d)) : Step E C τ o n σ v n' d := by
  unfold xstep at h
  split at h
  · rename_i c hc
    split at h
    · rename_i f hf
      split at h
      · rename_i g first cap hg
        split at h
        · rename_i args ha
          exact .call hc hf hg ha (hX _ _ _ _ _ _ _ h)
        · cases h
      · cases h
    · exact .op h
  · exact .op h
theorem xops_sound {ops : Array Oper} {m : Nat} : ∀ {l : List Oper} {τ τ' : Tm} {n n' : Nat} {σ : Store} {d : Delta}, xops E X ops m l τ n σ = some (τ', n', d) → Ops E C ops m l τ n σ τ' n' d
  | [], τ, τ', n, n', σ, d, h => by simp [xops] at h; obtain ⟨rfl, rfl, rfl⟩ := h; exact .nil
  | o :: r, τ, τ', n, n', σ, d, h => by
    unfold xops at h
    split at h
    · rename_i hd
      split at h
      · rename_i hw
        split at h
        · rename_i v n1 d1 hs
          split at h
          · rename_i τ2 n2 d2 hr
            cases h
            exact .on hw hd (xstep_sound hX hs) (xops_sound hr)
          · cases h
        · cases h
      · rename_i hw
        exact .off (by simpa using hw) hd (xops_sound h)
    · cases h

omit hX in
theorem selD_local {Ds Ds' : Nat → Delta} {S : Nat → Bool} : ∀ {L : Nat}, (∀ i, i < L → Ds i = Ds' i) → selD Ds S L = selD Ds' S L
  | 0, _ => rfl
  | L + 1, h => by
    unfold selD
    rw [selD_local (fun i hi => h i (by omega)), h L (by omega)]
omit hX in
theorem restr_local {ops : Array Oper} {K : Nat → List Nat} {Ds Ds' : Nat → Delta} {σ : Store} {j : Nat} (h : ∀ i, i < j → Ds i = Ds' i) : restr ops K Ds σ j = restr ops K Ds' σ j := by
  funext x
  unfold restr
  rw [selD_local h]
omit hX in
theorem selT_local {ops : Array Oper} {τ : Tm} {vs vs' : Nat → Value} {S : Nat → Bool} : ∀ {L : Nat}, (∀ i, i < L → vs i = vs' i) → selT ops τ vs S L = selT ops τ vs' S L
  | 0, _ => rfl
  | L + 1, h => by
    unfold selT
    rw [selT_local (fun i hi => h i (by omega)), h L (by omega)]

def tf (τ : Tm) : List Oper → List Value → Nat → Tm
  | o :: r, v :: vs, i + 1 => tf (upd τ o.dst v) r vs i
  | _, _, _ => τ
omit hX in
theorem tf_succ : ∀ {r : List Oper} {vs : List Value} {τ : Tm} {i : Nat}, i < r.length → i < vs.length → tf τ r vs (i + 1) = upd (tf τ r vs i) ((r[i]?).bind (·.dst)) (vs.getD i undef)
  | [], _, _, _, h, _ => by simp at h
  | _ :: _, [], _, _, _, h => by simp at h
  | o :: r, v :: vs, τ, 0, _, _ => by cases r <;> cases vs <;> rfl
  | o :: r, v :: vs, τ, i + 1, h1, h2 => by
    have := tf_succ (r := r) (vs := vs) (τ := upd τ o.dst v) (i := i) (by simpa using h1) (by simpa using h2)
    simp only [tf] at this ⊢
    rw [this]
    simp
omit hX in
theorem tf_sel {ops : Array Oper} {vs : List Value} {τ : Tm} (hl : vs.length = ops.size) : ∀ i, i ≤ ops.size → tf τ ops.toList vs i = selT ops τ (fun k => vs.getD k undef) allB i
  | 0, _ => by cases ops.toList <;> cases vs <;> rfl
  | i + 1, h => by
    rw [tf_succ (by simp; omega) (by omega), tf_sel hl i (by omega)]
    show _ = (if allB i = true then upd (selT ops τ (fun k => vs.getD k undef) allB i) ((ops[i]?).bind (·.dst)) (vs.getD i undef) else _)
    rw [if_pos (show allB i = true from rfl)]
    simp
theorem xpar_sound {ops : Array Oper} {m : Nat} {σ : Store} {K : List (List Nat)} : ∀ {r : List Oper} {τ : Tm} {n : Nat} {Ds : List Delta} {l : List (Value × Nat × Delta)}, xpar E X ops m σ K r τ n Ds = some l → l.length = r.length ∧
    ∀ (i : Nat) (o : Oper), r[i]? = some o → dstOk m o = true ∧
      (if wantA ops (tf τ r (l.map (·.1)) i) o = true then Step E C (tf τ r (l.map (·.1)) i) o ((n :: l.map (·.2.1)).getD i 0) (restr ops (fun q => K.getD q []) (fun q => (Ds ++ l.map (·.2.2)).getD q []) σ (Ds.length + i)) ((l.map (·.1)).getD i undef) ((n :: l.map (·.2.1)).getD (i + 1) 0) ((Ds ++ l.map (·.2.2)).getD (Ds.length + i) [])
        else (l.map (·.1)).getD i undef = undef ∧ (n :: l.map (·.2.1)).getD (i + 1) 0 = (n :: l.map (·.2.1)).getD i 0 ∧ (Ds ++ l.map (·.2.2)).getD (Ds.length + i) [] = []) ∧
      ∀ x ∈ keys ((Ds ++ l.map (·.2.2)).getD (Ds.length + i) []), x ∈ K.getD (Ds.length + i) []
  | [], τ, n, Ds, l, h => by simp [xpar] at h; subst h; exact ⟨rfl, fun i o ho => by simp at ho⟩
  | o :: r, τ, n, Ds, l, h => by
    unfold xpar at h
    split at h
    · rename_i hd
      split at h
      · rename_i hw
        split at h
        · rename_i v n1 d1 hs
          split at h
          · rename_i hk
            split at h
            · rename_i l' hl
              cases h
              obtain ⟨h1, h2⟩ := xpar_sound hl
              refine ⟨by simp [h1], fun i o' ho => ?_⟩
              cases i with
              | zero =>
                simp at ho; subst ho
                have e0 : tf τ (o :: r) ((( v, n1, d1) :: l').map (·.1)) 0 = τ := rfl
                have hdl : (Ds ++ ((v, n1, d1) :: l').map (·.2.2)).getD (Ds.length + 0) [] = d1 := by simp [List.getD_eq_getElem?_getD]
                refine ⟨hd, ?_, fun x hx => ?_⟩
                · rw [e0, if_pos hw, hdl]
                  have hr : restr ops (fun q => K.getD q []) (fun q => (Ds ++ ((v, n1, d1) :: l').map (·.2.2)).getD q []) σ (Ds.length + 0) = restr ops (fun q => K.getD q []) (fun q => Ds.getD q []) σ Ds.length :=
                    restr_local fun q hq => by simp only [List.getD_eq_getElem?_getD]; rw [List.getElem?_append_left (by simpa using hq)]
                  rw [hr]
                  exact xstep_sound hX hs
                · rw [hdl] at hx
                  have := List.all_eq_true.1 hk x hx
                  simpa using this
              | succ i =>
                have := h2 i o' (by simpa using ho)
                have e1 : Ds ++ [d1] ++ l'.map (·.2.2) = Ds ++ ((v, n1, d1) :: l').map (·.2.2) := by simp
                have e2 : (Ds ++ [d1]).length + i = Ds.length + (i + 1) := by simp; omega
                rw [e1, e2] at this
                exact this
            · cases h
          · cases h
        · cases h
      · rename_i hw
        split at h
        · rename_i l' hl
          cases h
          obtain ⟨h1, h2⟩ := xpar_sound hl
          refine ⟨by simp [h1], fun i o' ho => ?_⟩
          cases i with
          | zero =>
            simp at ho; subst ho
            have e0 : tf τ (o :: r) (((undef, n, ([] : Delta)) :: l').map (·.1)) 0 = τ := rfl
            have hdl : (Ds ++ ((undef, n, ([] : Delta)) :: l').map (·.2.2)).getD (Ds.length + 0) [] = [] := by simp [List.getD_eq_getElem?_getD]
            refine ⟨hd, ?_, fun x hx => ?_⟩
            · rw [e0, if_neg hw, hdl]
              exact ⟨rfl, rfl, rfl⟩
            · rw [hdl] at hx; simp [keys] at hx
          | succ i =>
            have := h2 i o' (by simpa using ho)
            have e1 : Ds ++ [([] : Delta)] ++ l'.map (·.2.2) = Ds ++ ((undef, n, ([] : Delta)) :: l').map (·.2.2) := by simp
            have e2 : (Ds ++ [([] : Delta)]).length + i = Ds.length + (i + 1) := by simp; omega
            rw [e1, e2] at this
            exact this
        · cases h
    · cases h

omit hX in
theorem xloop_sound {c : Code} {m : Nat} {f : Tm → Nat → Store → Option (AX × Tm × Nat × Delta)} (hf : ∀ τ n σ x τ' n' d, f τ n σ = some (x, τ', n', d) → Run E C m c τ n σ x τ' n' d) : ∀ {k : Nat} {τ τ' : Tm} {n n' : Nat} {σ : Store} {x : AX} {d : Delta}, xloop f k τ n σ = some (x, τ', n', d) → Run E C m (.loop c) τ n σ x τ' n' d
  | 0, _, _, _, _, _, _, _, h => by cases h
  | k + 1, τ, τ', n, n', σ, x, d, h => by
    unfold xloop at h
    split at h
    · rename_i τ1 n1 d1 h1
      split at h
      · rename_i x2 τ2 n2 d2 h2
        cases h
        exact .loopN (hf _ _ _ _ _ _ _ h1) (xloop_sound hf h2)
      · cases h
    · rename_i h1; cases h; exact .loopX (hf _ _ _ _ _ _ _ h1) (by simp)
    · rename_i h1; cases h; exact .loopX (hf _ _ _ _ _ _ _ h1) (by simp)
    · cases h

theorem xrun_sound {m F : Nat} : ∀ {c : Code} {τ τ' : Tm} {n n' : Nat} {σ : Store} {x : AX} {d : Delta}, xrun E X m F c τ n σ = some (x, τ', n', d) → Run E C m c τ n σ x τ' n' d := by
  intro c
  induction c with
  | skip => intro τ τ' n n' σ x d h; simp [xrun] at h; obtain ⟨rfl, rfl, rfl, rfl⟩ := h; exact .skip
  | exit i => intro τ τ' n n' σ x d h; simp [xrun] at h; obtain ⟨rfl, rfl, rfl, rfl⟩ := h; exact .exit
  | ret => intro τ τ' n n' σ x d h; simp [xrun] at h; obtain ⟨rfl, rfl, rfl, rfl⟩ := h; exact .ret
  | region id ops draw =>
    intro τ τ' n n' σ x d h
    cases draw with
    | false =>
      unfold xrun at h
      split at h
      · rename_i τ1 n1 d1 h1
        cases h
        exact .region (xops_sound hX h1)
      · cases h
    | true =>
      unfold xrun at h
      split at h
      · rename_i hok
        split at h
        · rename_i K hK
          split at h
          · rename_i l hl
            obtain ⟨h1, h2⟩ := xpar_sound hX hl
            have hlen : (l.map (·.1)).length = ops.size := by simp [h1]
            have hv : ∀ k, (l.map (·.1)).getD k undef = (l.getD k (undef, 0, [])).1 := fun k => by
              simp only [List.getD_eq_getElem?_getD, List.getElem?_map]
              cases l[k]? <;> rfl
            have hds : ∀ k, (([] : List Delta) ++ l.map (·.2.2)).getD k [] = (l.getD k (undef, 0, [])).2.2 := fun k => by
              simp only [List.nil_append, List.getD_eq_getElem?_getD, List.getElem?_map]
              cases l[k]? <;> rfl
            have hsel : ∀ i, i ≤ ops.size → tf τ ops.toList (l.map (·.1)) i = selT ops τ (fun k => (l.getD k (undef, 0, [])).1) allB i := fun i hi => by
              rw [tf_sel hlen i hi]
              exact selT_local fun k _ => hv k
            have hmk := Par.mk (E := E) (C := C) (ops := ops) (m := m) (τ := τ) (n := n) (σ := σ) (fun k => (l.getD k (undef, 0, [])).1) (fun k => (n :: l.map (·.2.1)).getD k 0) (fun k => (l.getD k (undef, 0, [])).2.2) (fun k => K.getD k []) rfl hok (fun j y hy => by
                by_cases hj : j < ops.size
                · have := (h2 j ops[j] (by simp [hj])).2.2 y (by simp only [List.length_nil, Nat.zero_add]; rw [hds j]; exact hy)
                  simpa using this
                · rw [List.getD_eq_getElem?_getD, List.getElem?_eq_none (by simp [h1]; omega)] at hy
                  simp [keys] at hy) (fun j o ho => by
                have hjs : j < ops.size := (Array.getElem?_eq_some_iff.1 ho).1
                obtain ⟨g1, g2, _⟩ := h2 j o (by simpa using ho)
                refine ⟨g1, ?_⟩
                simp only [List.length_nil, Nat.zero_add] at g2
                rw [hsel j (by omega)] at g2
                have hr : restr ops (fun q => K.getD q []) (fun q => (([] : List Delta) ++ l.map (·.2.2)).getD q []) σ j = restr ops (fun q => K.getD q []) (fun k => (l.getD k (undef, 0, [])).2.2) σ j := restr_local fun q _ => hds q
                rw [hr, hv j, hds j] at g2
                exact g2)
            cases h
            exact .par hmk
          · cases h
        · cases h
      · cases h
  | seq a b iha ihb =>
    intro τ τ' n n' σ x d h
    unfold xrun at h
    split at h
    · rename_i τ1 n1 d1 h1
      split at h
      · rename_i x2 τ2 n2 d2 h2
        cases h
        exact .seqN (iha h1) (ihb h2)
      · cases h
    · rename_i h1; cases h; exact .seqX (iha h1) (by simp)
    · rename_i h1; cases h; exact .seqX (iha h1) (by simp)
    · cases h
  | cond c a b iha ihb =>
    intro τ τ' n n' σ x d h
    unfold xrun at h
    split at h
    · rename_i hc; exact .cond hc (iha h)
    · rename_i hc; exact .cond hc (ihb h)
    · cases h
  | block id c ih =>
    intro τ τ' n n' σ x d h
    unfold xrun at h
    split at h
    · rename_i h1; cases h; exact .block (ih h1)
    · cases h
  | loop c ih =>
    intro τ τ' n n' σ x d h
    unfold xrun at h
    simp only [tabT_eq] at h
    exact xloop_sound (fun τ n σ x τ' n' d h => ih h) h
  | _ => intro τ τ' n n' σ x d h; simp [xrun] at h
omit hX in
theorem xcall_sound {F : Nat} : ∀ (k : Nat) {f : Nat} {args : List Value} {n n' : Nat} {σ : Store} {v : Value} {d : Delta}, xcall E F k f args n σ = some (v, n', d) → CallK E k f args n σ v n' d
  | 0, _, _, _, _, _, _, _, h => by cases h
  | k + 1, f, args, n, n', σ, v, d, h => by
    unfold xcall at h
    split at h
    · rename_i fn hf
      split at h
      · rename_i c hc
        split at h
        · rename_i hl
          have hX := fun f args n σ v n' d => xcall_sound (F := F) k (f := f) (args := args) (n := n) (n' := n') (σ := σ) (v := v) (d := d)
          split at h
          · cases h
          · rename_i x τ' n2 d2 hne hr
            split at h
            · rename_i vs hvs
              cases h
              refine ⟨fn, c, x, τ', _, vs, hf, hc, hl, xrun_sound hX hr, ?_, hvs, rfl, Less.refl _ _ _⟩
              cases x with
              | normal => exact .inl rfl
              | ret => exact .inr rfl
              | exit i => exact absurd rfl (hne i)
            · cases h
          · cases h
        · cases h
      · cases h
    · cases h
end
end Go.Proofs.YtgajcmanompmcaaV
