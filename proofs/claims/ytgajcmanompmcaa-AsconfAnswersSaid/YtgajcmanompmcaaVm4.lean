/- The abstract machine: objects of whose end nobody asks any more; lists of records. -/
import Derived.Test.YtgajcmanompmcaaVm3
import Derived.SizedLaws
import Derived.ChangeArms
set_option linter.unusedVariables false
set_option linter.unusedSimpArgs false
namespace Go.Proofs.YtgajcmanompmcaaV
open Go Go.RowKit
abbrev Pt (i m j : Nat) : Value := .pointer (some ⟨i, m, some j⟩)
/-- The first elements of an object. -/
def shr (o : AObj) (k : Nat) : AObj := { o with es := o.es.take k }
theorem take_some {α : Type} {l : List α} {k i : Nat} {e : α} (h : (l.take k)[i]? = some e) : l[i]? = some e := by
  rw [List.getElem?_take] at h
  split at h
  · exact h
  · cases h
theorem ObjR.shr {N : Nat} {ι : Inj} {o : AObj} {p : Place} {w : World} (h : ObjR N ι o p w) (k : Nat) : ObjR N ι (shr o k) p w where
  sz := h.sz
  pos := h.pos
  cap := by
    have := h.cap
    show (o.es.take k).length ≤ _
    rw [List.length_take]; omega
  len := fun i e he => h.len i e (take_some he)
  cell := fun i e he => h.cell i e (take_some he)
  own' := fun hw => (h.own' hw).imp (fun g => ⟨by show o.es.take k = []; rw [g.1]; exact List.take_nil, g.2⟩) (fun g => g)
theorem Rel.shr {D : Den} {N : Nat} {w0 w : World} {ι : Inj} {σ : Store} (h : Rel D N w0 ι σ w) {j : Nat} {ob : AObj} (hj : σ j = some ob) (k : Nat) : Rel D N w0 ι (app [(j, some (Go.Proofs.YtgajcmanompmcaaV.shr ob k))] σ) w where
  below := h.below
  size := h.size
  obj := fun i o e => by
    by_cases hi : i = j
    · subst hi
      rw [show app [(i, some (Go.Proofs.YtgajcmanompmcaaV.shr ob k))] σ i = some (Go.Proofs.YtgajcmanompmcaaV.shr ob k) by simp [app]] at e
      injection e with e
      subst e
      obtain ⟨p, h1, h2, h3⟩ := h.obj i ob hj
      exact ⟨p, h1, h2.imp (fun g => ⟨by show ob.es.take k = []; rw [g.1]; exact List.take_nil, g.2⟩) (fun g => g), h3.shr k⟩
    · rw [show app [(j, some (Go.Proofs.YtgajcmanompmcaaV.shr ob k))] σ i = σ i by simp [app, hi]] at e
      exact h.obj i o e
  sep := fun i i' o o' p p' e e' hp hp' hne hw => by
    have key : ∀ (x : Nat) (q : AObj), app [(j, some (Go.Proofs.YtgajcmanompmcaaV.shr ob k))] σ x = some q → ∃ q', σ x = some q' ∧ q'.w = q.w ∧ (q'.es = [] → q.es = []) := fun x q e => by
      by_cases hi : x = j
      · subst hi
        rw [show app [(x, some (Go.Proofs.YtgajcmanompmcaaV.shr ob k))] σ x = some (Go.Proofs.YtgajcmanompmcaaV.shr ob k) by simp [app]] at e
        injection e with e
        subst e
        exact ⟨ob, hj, rfl, fun g => by show ob.es.take k = []; rw [g]; exact List.take_nil⟩
      · rw [show app [(j, some (Go.Proofs.YtgajcmanompmcaaV.shr ob k))] σ x = σ x by simp [app, hi]] at e
        exact ⟨q, e, rfl, fun g => g⟩
    obtain ⟨q, g1, g2, g5⟩ := key i o e
    obtain ⟨q', g3, g4, g6⟩ := key i' o' e'
    exact (h.sep i i' q q' p p' g1 g3 hp hp' hne (by rw [g2]; exact hw)).imp (fun g => ⟨g5 g.1, g.2⟩) (Or.imp (fun g => ⟨g6 g.1, g.2⟩) (fun g => g))
  den := h.den
theorem SC.shr {P : Program} {D : Den} {f : Nat} {args : List Value} {n n' : Nat} {σ : Store} {v : Value} {d : Delta} (h : SC P D f args n σ v n' d) {j : Nat} {ob : AObj} (hj : app d σ j = some ob) (k : Nat) : SC P D f args n σ v n' ((j, some (Go.Proofs.YtgajcmanompmcaaV.shr ob k)) :: d) := by
  refine ⟨h.1, ⟨h.2.1.1, fun i hi => ?_⟩, fun N w0 σ2 ι w args' R hs hR hargs hf hK => h.2.2 N w0 σ2 ι w args' R hs hR hargs hf fun κ w' v' hend hv => hK κ w' v' ⟨hend.1, hend.2.1, ?_⟩ hv⟩
  · by_cases hm : i ∈ keys d
    · exact h.2.1.2 i hm
    · have : i = j := by
        simp only [keys, List.map_cons, List.mem_cons] at hi
        exact hi.resolve_right hm
      subst this
      rw [app_off hm] at hj
      left; rw [hj]; rfl
  · have := hend.2.2.shr (j := j) (ob := ob) (Sub.app hs d j ob hj) k
    rw [← app_append] at this
    exact this
theorem CR.shr {P : Program} {E : Env} {m : Nat} {c : Code} {τ τ' : Tm} {n n' : Nat} {σ : Store} {x : AX} {d : Delta} {j : Nat} {ob : AObj} (hj : σ j = some ob) (k : Nat) (h : CR P E m c τ n (app [(j, some (Go.Proofs.YtgajcmanompmcaaV.shr ob k))] σ) x τ' n' d) : CR P E m c τ n σ x τ' n' (d ++ [(j, some (Go.Proofs.YtgajcmanompmcaaV.shr ob k))]) := by
  refine ⟨⟨h.keys.1, fun i hi => ?_⟩, fun N w0 σ2 ι w a Q hs hR hT hm hdf hf hQ => ?_⟩
  · rw [keys_append, List.mem_append] at hi
    by_cases he : i = j
    · subst he; left; rw [hj]; rfl
    · rcases hi with hi | hi
      · have := h.keys.2 i hi
        rw [show app [(j, some (Go.Proofs.YtgajcmanompmcaaV.shr ob k))] σ i = σ i by simp [app, he]] at this
        exact this
      · simp [Go.Proofs.YtgajcmanompmcaaV.keys] at hi; exact absurd hi he
  · refine h.run N w0 (app [(j, some (Go.Proofs.YtgajcmanompmcaaV.shr ob k))] σ2) ι w a Q (hs.app _) (hR.shr (hs j ob hj) k) hT hm hdf hf fun κ w' a' hend => hQ κ w' a' ⟨hend.1, hend.2.1, ?_⟩
    rw [app_append]
    exact hend.2.2
theorem RA.shr {P : Program} {E : Env} {b : Nat} {σ : Store} {m : Nat} {c : Code} {τ : Tm} {n : Nat} {D : Delta} {Q : Post} {j : Nat} {ob ob' : AObj} (hj : app D σ j = some ob) (k : Nat) (ho : Go.Proofs.YtgajcmanompmcaaV.shr ob k = ob') (h : RA P E b σ m c τ n ((j, some ob') :: D) Q) : RA P E b σ m c τ n D Q := by
  subst ho
  obtain ⟨x, τ', n', e, D', h1, h2, h3⟩ := h
  refine ⟨x, τ', n', e ++ [(j, some (Go.Proofs.YtgajcmanompmcaaV.shr ob k))], D', h1.shr hj k, ?_, h3⟩
  rw [List.append_assoc]
  exact h2
theorem CQ.shr {P : Program} {D : Den} {f : Nat} {args : List Value} {n : Nat} {σ : Store} {Q R : Value → Nat → Delta → Prop} (h : CQ P D f args n σ Q) (hQ : ∀ v n' d, Q v n' d → ∃ j ob k, app d σ j = some ob ∧ R v n' ((j, some (Go.Proofs.YtgajcmanompmcaaV.shr ob k)) :: d)) : CQ P D f args n σ R := by
  obtain ⟨v, n', d, h1, h2⟩ := h
  obtain ⟨j, ob, k, h3, h4⟩ := hQ v n' d h2
  exact ⟨v, n', _, h1.shr h3 k, h4⟩
/-! what calls write, told otherwise -/
theorem SC.less {P : Program} {D : Den} {f : Nat} {args : List Value} {n n' : Nat} {σ : Store} {v : Value} {d0 d : Delta} (h : SC P D f args n σ v n' d0) (hl : Less n n' d0 d) : SC P D f args n σ v n' d :=
  ⟨h.1, hl.keysOk h.2.1, fun N w0 σ2 ι w args' R hs hR hargs hf hK => h.2.2 N w0 σ2 ι w args' R hs hR hargs hf fun κ w' v' hend hv => hK κ w' v' ⟨hend.1, hend.2.1, hl.rel (fun i h1 h2 => by
      cases ho : σ2 i with
      | none => rfl
      | some o =>
        obtain ⟨p, hp, _⟩ := hR.obj i o ho
        rw [hf i h1 h2] at hp; cases hp) hend.2.2⟩ hv⟩
theorem CQ.less {P : Program} {D : Den} {f : Nat} {args : List Value} {n : Nat} {σ : Store} {Q R : Value → Nat → Delta → Prop} (h : CQ P D f args n σ Q) (hQ : ∀ v n' d, Q v n' d → ∃ d', Less n n' d d' ∧ R v n' d') : CQ P D f args n σ R := by
  obtain ⟨v, n', d, h1, h2⟩ := h
  obtain ⟨d', h3, h4⟩ := hQ v n' d h2
  exact ⟨v, n', d', h1.less h3, h4⟩
/-! records -/
section
variable {α : Type} {c : α → List Value} {d0 : α}
theorem mp_get {l : List α} {j : Nat} (h : j < l.length) : (l.map c)[j]? = some (c (l.getD j d0)) := by
  rw [List.getElem?_map, List.getD_eq_getElem?_getD, List.getElem?_eq_getElem h]; rfl
theorem mp_set {l : List α} {j : Nat} {x : α} : (l.map c).set j (c x) = (l.set j x).map c := by rw [List.map_set]
theorem mp_snoc {l : List α} {x : α} : l.map c ++ [c x] = (l ++ [x]).map c := by rw [List.map_append]; rfl
theorem mp_drop {l : List α} {k : Nat} : (l.map c).drop k = (l.drop k).map c := by rw [List.map_drop]
theorem mp_take {l : List α} {k : Nat} : (l.map c).take k = (l.take k).map c := by rw [List.map_take]
theorem take_snoc {l : List α} {i : Nat} (h : i < l.length) : l.take i ++ [l.getD i d0] = l.take (i + 1) := by
  rw [List.take_add_one, List.getElem?_eq_getElem h, List.getD_eq_getElem?_getD, List.getElem?_eq_getElem h]; rfl
theorem getD_app_l {l m : List α} {i : Nat} (h : i < l.length) : (l ++ m).getD i d0 = l.getD i d0 := by
  rw [List.getD_eq_getElem?_getD, List.getD_eq_getElem?_getD, List.getElem?_append_left h]
theorem getD_app_r {l m : List α} {i : Nat} (h : l.length ≤ i) : (l ++ m).getD i d0 = m.getD (i - l.length) d0 := by
  rw [List.getD_eq_getElem?_getD, List.getD_eq_getElem?_getD, List.getElem?_append_right h]
end
section
variable {E : Env} [hP : Plain E] {τ : Tm} {o : Oper} {n : Nat} {σ : Store} {t u : Nat} {x y a : Operand} {k k' : IntKind} {v : Value} {ti ei ui : TI}
variable {α : Type} {c : α → List Value} {d0 : α}
/-- An element that is read whole. -/
theorem r_loadR {l : List α} {i m ty sz : Nat} {w : Bool} (d0 : α) (ho : o.op = .load t a) (ha : args1 τ a = some (.pointer (some ⟨i, m, some 0⟩))) (ht : E.ty t = some ti) (hg : isAgg ti.d = true) (hσ : σ i = some ⟨l.map c, sz, ty, w⟩) (hm : m < l.length) (hl : (c (l.getD m d0)).length = ti.size) : (aop E τ o).run n σ = some (.agg ⟨c (l.getD m d0)⟩, n, []) :=
  r_loadA (e := c (l.getD m d0)) ho ha ht hg hσ (mp_get hm) (by rw [List.drop_zero, ← hl, List.take_length]) hl
/-- A cell of an element that is read. -/
theorem r_loadF {l : List α} {i m j ty sz : Nat} {w : Bool} (d0 : α) (ho : o.op = .load t a) (ha : args1 τ a = some (.pointer (some ⟨i, m, some j⟩))) (ht : E.ty t = some ti) (hz : ti.size = 1) (hg : isAgg ti.d = false) (hσ : σ i = some ⟨l.map c, sz, ty, w⟩) (hm : m < l.length) (hv : (c (l.getD m d0))[j]? = some v) : (aop E τ o).run n σ = some (v, n, []) :=
  r_load1 ho ha ht hz hg hσ (mp_get hm) hv
/-- Several cells of an element that are read. -/
theorem r_loadG {l : List α} {i m j ty sz : Nat} {w : Bool} {cs : List Value} (d0 : α) (ho : o.op = .load t a) (ha : args1 τ a = some (.pointer (some ⟨i, m, some j⟩))) (ht : E.ty t = some ti) (hg : isAgg ti.d = true) (hσ : σ i = some ⟨l.map c, sz, ty, w⟩) (hm : m < l.length) (hv : ((c (l.getD m d0)).drop j).take ti.size = cs) (hl : cs.length = ti.size) : (aop E τ o).run n σ = some (.agg ⟨cs⟩, n, []) :=
  r_loadA ho ha ht hg hσ (mp_get hm) hv hl
/-- An element of which cells are written: it is another record. -/
theorem r_storeR {l : List α} {i m j ty sz : Nat} {cs : List Value} (d0 x' : α) (ho : o.op = .store t a x) (ha : args1 τ a = some (.pointer (some ⟨i, m, some j⟩))) (hx : args1 τ x = some v) (ht : E.ty t = some ti) (hc : cellsL v = cs) (hl : cs.length = ti.size) (hb : cs.all oneB = true) (hσ : σ i = some ⟨l.map c, sz, ty, true⟩) (hm : m < l.length) (hj : j + ti.size ≤ (c (l.getD m d0)).length) (hv : ov (c (l.getD m d0)) j cs = c x') : (aop E τ o).run n σ = some (.tuple #[], n, [(i, some ⟨(l.set m x').map c, sz, ty, true⟩)]) := by
  refine r_store ho ha hx ht hc hl hb hσ rfl (mp_get hm) hj ?_
  show ({es := (l.map c).set m _, sz := sz, t := ty, w := true} : AObj) = _
  rw [hv, mp_set]
end
/-! values that equal themselves -/
def selfFields (E : Env) (R : Nat → Value → Bool) (xs : List Value) : List Field → Bool
  | [] => true
  | f :: fs => if f.name ≠ "_" then
      match part E f.type xs f.offset with
      | some a => R f.type a && selfFields E R xs fs
      | none => false
    else selfFields E R xs fs
def selfElems (E : Env) (R : Nat → Value → Bool) (elem n : Nat) (xs : List Value) (i : Nat) : Nat → Bool
  | 0 => true
  | m + 1 => match part E elem xs (i * n) with
    | some a => R elem a && selfElems E R elem n xs (i + 1) m
    | none => false
def selfEq (E : Env) : Nat → Nat → Value → Bool
  | 0, _, _ => false
  | d + 1, t, x =>
    match E.ty t with
    | none => false
    | some i => match i.d, x with
      | .bool, .bool _ => true
      | .int _, .int _ _ => true
      | .string, .string _ => true
      | .struct fields, .agg xs => i.eqok && selfFields E (selfEq E d) xs.toList fields.toList
      | .array len elem, .agg xs => match E.ty elem with
        | some j => selfElems E (selfEq E d) elem j.size xs.toList 0 len
        | none => false
      | _, _ => false
theorem str_self (s : ByteArray) : (s == s) = true := by
  first | exact beq_self_eq_true s | (show (s.data == s.data) = true; exact beq_self_eq_true _) | simp
theorem fieldsEq_self {E : Env} {R : Nat → Value → Value → Option Bool} {S : Nat → Value → Bool} (h : ∀ t x, S t x = true → R t x x = some true) {xs : List Value} : ∀ fs : List Field, selfFields E S xs fs = true → fieldsEq E R xs xs fs = some true
  | [], _ => rfl
  | f :: fs, hs => by
    unfold selfFields at hs
    unfold fieldsEq
    split
    · rename_i hn
      rw [if_pos hn] at hs
      cases hp : part E f.type xs f.offset with
      | none => rw [hp] at hs; cases hs
      | some a =>
        rw [hp] at hs
        simp only [Bool.and_eq_true] at hs
        simp only [h _ _ hs.1]
        exact fieldsEq_self h fs hs.2
    · rename_i hn
      rw [if_neg hn] at hs
      exact fieldsEq_self h fs hs
theorem elemsEq_self {E : Env} {R : Nat → Value → Value → Option Bool} {S : Nat → Value → Bool} (h : ∀ t x, S t x = true → R t x x = some true) {elem n : Nat} {xs : List Value} : ∀ (m i : Nat), selfElems E S elem n xs i m = true → elemsEq E R elem n xs xs i m = some true
  | 0, _, _ => rfl
  | m + 1, i, hs => by
    unfold selfElems at hs
    unfold elemsEq
    cases hp : part E elem xs (i * n) with
    | none => rw [hp] at hs; cases hs
    | some a =>
      rw [hp] at hs
      simp only [Bool.and_eq_true] at hs
      simp only [h _ _ hs.1]
      exact elemsEq_self h m (i + 1) hs.2
theorem aeq_self {E : Env} : ∀ (d t : Nat) (x : Value), selfEq E d t x = true → aeq E d t x x = some true
  | 0, _, _, h => by cases h
  | d + 1, t, x, h => by
    have ih := aeq_self (E := E) d
    unfold selfEq at h
    unfold aeq
    cases hE : E.ty t with
    | none => rw [hE] at h; cases h
    | some i =>
      rw [hE] at h
      simp only at h ⊢
      split at h
      · rename_i hd; simp only [hd]; rw [beq_self_eq_true]
      · rename_i hd; simp only [hd]; simp
      · rename_i hd; simp only [hd]; rw [str_self]
      · rename_i hd
        simp only [Bool.and_eq_true] at h
        simp only [hd, h.1, if_true]
        exact fieldsEq_self ih _ h.2
      · rename_i hd
        simp only [hd]
        split at h
        · rename_i he
          simp only [he]
          exact elemsEq_self ih _ _ h
        · cases h
      · cases h
section
variable {E : Env} [hP : Plain E] {τ : Tm} {o : Oper} {n : Nat} {σ : Store} {t u : Nat} {x y : Operand} {a b : Array Value} {r : Bool}
theorem r_eqlA (ho : o.op = .binOp .eql t x y u) (hx : args1 τ x = some (.agg a)) (hy : args1 τ y = some (.agg b)) (hg : guardOk E .eql t x y (.agg a) (.agg b) = true) (h : aeq E Op.maxDepth t (.agg a) (.agg b) = some r) : (aop E τ o).run n σ = some (.bool r, n, []) := by
  rw [aop_plain]
  unfold aop0
  simp only [ho, ev, hx, hy, hg, if_true, abin, coded, Bool.or_false, Bool.false_eq_true, if_false, abin0, h]
  rfl
theorem r_neqA (ho : o.op = .binOp .neq t x y u) (hx : args1 τ x = some (.agg a)) (hy : args1 τ y = some (.agg b)) (hg : guardOk E .neq t x y (.agg a) (.agg b) = true) (h : aeq E Op.maxDepth t (.agg a) (.agg b) = some r) : (aop E τ o).run n σ = some (.bool (!r), n, []) := by
  rw [aop_plain]
  unfold aop0
  simp only [ho, ev, hx, hy, hg, if_true, abin, coded, Bool.or_false, Bool.false_eq_true, if_false, abin0, h]
  rfl
theorem r_s2bN {s elem : Nat} {S' : ByteArray} {si ti ei : TI} {N : Nat} (ho : o.op = .convert s t x) (hx : args1 τ x = some (.string S')) (hs : E.ty s = some si) (ht : E.ty t = some ti) (hsd : si.d = .string) (htd : ti.d = .slice elem) (he : E.ty elem = some ei) (hd : ei.d = .int .u8) (hN : S'.size = N) :
    (aop E τ o).run n σ = some (.slice (some ⟨n, 0, none⟩) N 0, n + 1, [(n, some ⟨bc (L S'), 1, elem, true⟩)]) := by
  subst hN
  exact r_s2b ho hx hs ht hsd htd he hd
end
/-! what came in is within the form's reach -/
theorem str_reach {P : Program} {H : Type} {enc : TypeId × Value → H} {w : World} {fuel t : Nat} {cs : List Value} {x : DataW H × List MemPlace} {fs : Array Field} (ht : P.underlying t = some (.struct fs)) (h : DataW.trod enc P w 0 (fun _ => true) true fuel t cs = some x) (hw : ∀ n ∈ x.1.weights P t, n ≤ reachBytes) {i : Nat} {f : Field} (hf : fs[i]? = some f) (hs : P.underlying f.type = some .string) (hc : P.cellsOf f.type = 1) {s : ByteArray} (he : cs[f.offset]? = some (.string s)) : s.size ≤ 140737488351232 := by
  obtain ⟨xs, n, _, rfl, hcl, hxl, hg⟩ := DataW.trod_struct ht h
  have g := hg i f hf
  have hi : i < xs.length := by rw [hxl]; exact (Array.getElem?_eq_some_iff.1 hf).1
  rw [List.getElem?_eq_getElem hi, hc] at g
  obtain ⟨s', e1, e2, _⟩ := DataW.trod_string hs g
  have hlt := (List.getElem?_eq_some_iff.1 he).1
  rw [List.drop_eq_getElem_cons hlt, (List.getElem?_eq_some_iff.1 he).2] at e1
  simp only [List.take_succ_cons, List.take_zero, List.cons.injEq, Value.string.injEq, and_true] at e1
  subst e1
  have hm : s.size ∈ (DataW.agg (xs.map (·.1))).weights P t := by
    have := DataW.weights_mem_each (P := P) (ts := fs.toList.map (·.type)) (ds := xs.map (·.1)) (j := i) (t := f.type) (d := xs[i].1) (by rw [List.getElem?_map, Array.getElem?_toList, hf]; rfl) (by rw [List.getElem?_map, List.getElem?_eq_getElem hi]; rfl) s.size (by
      rw [e2]; simp only [DataW.weights, List.mem_singleton]
      show s.data.size = s.data.toList.length
      rw [Array.length_toList])
    simp only [DataW.weights, ht]
    exact this
  have := hw _ hm
  exact this
theorem arg_reach {P : Program} {H : Type} {ts : List TypeId} {ds : List (DataW H)} (h : (DataW.weightsEach P ts ds).all (· ≤ reachBytes) = true) {j t : Nat} {d : DataW H} (ht : ts[j]? = some t) (hd : ds[j]? = some d) : ∀ n ∈ d.weights P t, n ≤ reachBytes := fun n hn => by
  have := List.all_eq_true.1 h _ (DataW.weights_mem_each ht hd n hn)
  simpa using this
/-! short words -/
theorem kb1 {n a0 : Nat} {x0 : Option AObj} (h : a0 < n) : ∀ i ∈ keys [(a0, x0)], i < n := by
  intro i hi; simp only [keys, List.map_cons, List.map_nil, List.mem_cons, List.not_mem_nil, or_false] at hi; omega
theorem kc1 {n n' a0 : Nat} {x0 : Option AObj} (h : (n ≤ a0 ∧ a0 < n')) : ∀ i ∈ keys [(a0, x0)], n ≤ i ∧ i < n' := by
  intro i hi; simp only [keys, List.map_cons, List.map_nil, List.mem_cons, List.not_mem_nil, or_false] at hi; omega
theorem kb2 {n a0 a1 : Nat} {x0 x1 : Option AObj} (h : a0 < n ∧ a1 < n) : ∀ i ∈ keys [(a0, x0), (a1, x1)], i < n := by
  intro i hi; simp only [keys, List.map_cons, List.map_nil, List.mem_cons, List.not_mem_nil, or_false] at hi; omega
theorem kc2 {n n' a0 a1 : Nat} {x0 x1 : Option AObj} (h : (n ≤ a0 ∧ a0 < n') ∧ (n ≤ a1 ∧ a1 < n')) : ∀ i ∈ keys [(a0, x0), (a1, x1)], n ≤ i ∧ i < n' := by
  intro i hi; simp only [keys, List.map_cons, List.map_nil, List.mem_cons, List.not_mem_nil, or_false] at hi; omega
theorem kb3 {n a0 a1 a2 : Nat} {x0 x1 x2 : Option AObj} (h : a0 < n ∧ a1 < n ∧ a2 < n) : ∀ i ∈ keys [(a0, x0), (a1, x1), (a2, x2)], i < n := by
  intro i hi; simp only [keys, List.map_cons, List.map_nil, List.mem_cons, List.not_mem_nil, or_false] at hi; omega
theorem kc3 {n n' a0 a1 a2 : Nat} {x0 x1 x2 : Option AObj} (h : (n ≤ a0 ∧ a0 < n') ∧ (n ≤ a1 ∧ a1 < n') ∧ (n ≤ a2 ∧ a2 < n')) : ∀ i ∈ keys [(a0, x0), (a1, x1), (a2, x2)], n ≤ i ∧ i < n' := by
  intro i hi; simp only [keys, List.map_cons, List.map_nil, List.mem_cons, List.not_mem_nil, or_false] at hi; omega
theorem kb4 {n a0 a1 a2 a3 : Nat} {x0 x1 x2 x3 : Option AObj} (h : a0 < n ∧ a1 < n ∧ a2 < n ∧ a3 < n) : ∀ i ∈ keys [(a0, x0), (a1, x1), (a2, x2), (a3, x3)], i < n := by
  intro i hi; simp only [keys, List.map_cons, List.map_nil, List.mem_cons, List.not_mem_nil, or_false] at hi; omega
theorem kc4 {n n' a0 a1 a2 a3 : Nat} {x0 x1 x2 x3 : Option AObj} (h : (n ≤ a0 ∧ a0 < n') ∧ (n ≤ a1 ∧ a1 < n') ∧ (n ≤ a2 ∧ a2 < n') ∧ (n ≤ a3 ∧ a3 < n')) : ∀ i ∈ keys [(a0, x0), (a1, x1), (a2, x2), (a3, x3)], n ≤ i ∧ i < n' := by
  intro i hi; simp only [keys, List.map_cons, List.map_nil, List.mem_cons, List.not_mem_nil, or_false] at hi; omega
theorem kb5 {n a0 a1 a2 a3 a4 : Nat} {x0 x1 x2 x3 x4 : Option AObj} (h : a0 < n ∧ a1 < n ∧ a2 < n ∧ a3 < n ∧ a4 < n) : ∀ i ∈ keys [(a0, x0), (a1, x1), (a2, x2), (a3, x3), (a4, x4)], i < n := by
  intro i hi; simp only [keys, List.map_cons, List.map_nil, List.mem_cons, List.not_mem_nil, or_false] at hi; omega
theorem kc5 {n n' a0 a1 a2 a3 a4 : Nat} {x0 x1 x2 x3 x4 : Option AObj} (h : (n ≤ a0 ∧ a0 < n') ∧ (n ≤ a1 ∧ a1 < n') ∧ (n ≤ a2 ∧ a2 < n') ∧ (n ≤ a3 ∧ a3 < n') ∧ (n ≤ a4 ∧ a4 < n')) : ∀ i ∈ keys [(a0, x0), (a1, x1), (a2, x2), (a3, x3), (a4, x4)], n ≤ i ∧ i < n' := by
  intro i hi; simp only [keys, List.map_cons, List.map_nil, List.mem_cons, List.not_mem_nil, or_false] at hi; omega
theorem kb6 {n a0 a1 a2 a3 a4 a5 : Nat} {x0 x1 x2 x3 x4 x5 : Option AObj} (h : a0 < n ∧ a1 < n ∧ a2 < n ∧ a3 < n ∧ a4 < n ∧ a5 < n) : ∀ i ∈ keys [(a0, x0), (a1, x1), (a2, x2), (a3, x3), (a4, x4), (a5, x5)], i < n := by
  intro i hi; simp only [keys, List.map_cons, List.map_nil, List.mem_cons, List.not_mem_nil, or_false] at hi; omega
theorem kc6 {n n' a0 a1 a2 a3 a4 a5 : Nat} {x0 x1 x2 x3 x4 x5 : Option AObj} (h : (n ≤ a0 ∧ a0 < n') ∧ (n ≤ a1 ∧ a1 < n') ∧ (n ≤ a2 ∧ a2 < n') ∧ (n ≤ a3 ∧ a3 < n') ∧ (n ≤ a4 ∧ a4 < n') ∧ (n ≤ a5 ∧ a5 < n')) : ∀ i ∈ keys [(a0, x0), (a1, x1), (a2, x2), (a3, x3), (a4, x4), (a5, x5)], n ≤ i ∧ i < n' := by
  intro i hi; simp only [keys, List.map_cons, List.map_nil, List.mem_cons, List.not_mem_nil, or_false] at hi; omega
theorem kb7 {n a0 a1 a2 a3 a4 a5 a6 : Nat} {x0 x1 x2 x3 x4 x5 x6 : Option AObj} (h : a0 < n ∧ a1 < n ∧ a2 < n ∧ a3 < n ∧ a4 < n ∧ a5 < n ∧ a6 < n) : ∀ i ∈ keys [(a0, x0), (a1, x1), (a2, x2), (a3, x3), (a4, x4), (a5, x5), (a6, x6)], i < n := by
  intro i hi; simp only [keys, List.map_cons, List.map_nil, List.mem_cons, List.not_mem_nil, or_false] at hi; omega
theorem kc7 {n n' a0 a1 a2 a3 a4 a5 a6 : Nat} {x0 x1 x2 x3 x4 x5 x6 : Option AObj} (h : (n ≤ a0 ∧ a0 < n') ∧ (n ≤ a1 ∧ a1 < n') ∧ (n ≤ a2 ∧ a2 < n') ∧ (n ≤ a3 ∧ a3 < n') ∧ (n ≤ a4 ∧ a4 < n') ∧ (n ≤ a5 ∧ a5 < n') ∧ (n ≤ a6 ∧ a6 < n')) : ∀ i ∈ keys [(a0, x0), (a1, x1), (a2, x2), (a3, x3), (a4, x4), (a5, x5), (a6, x6)], n ≤ i ∧ i < n' := by
  intro i hi; simp only [keys, List.map_cons, List.map_nil, List.mem_cons, List.not_mem_nil, or_false] at hi; omega
theorem kb8 {n a0 a1 a2 a3 a4 a5 a6 a7 : Nat} {x0 x1 x2 x3 x4 x5 x6 x7 : Option AObj} (h : a0 < n ∧ a1 < n ∧ a2 < n ∧ a3 < n ∧ a4 < n ∧ a5 < n ∧ a6 < n ∧ a7 < n) : ∀ i ∈ keys [(a0, x0), (a1, x1), (a2, x2), (a3, x3), (a4, x4), (a5, x5), (a6, x6), (a7, x7)], i < n := by
  intro i hi; simp only [keys, List.map_cons, List.map_nil, List.mem_cons, List.not_mem_nil, or_false] at hi; omega
theorem kc8 {n n' a0 a1 a2 a3 a4 a5 a6 a7 : Nat} {x0 x1 x2 x3 x4 x5 x6 x7 : Option AObj} (h : (n ≤ a0 ∧ a0 < n') ∧ (n ≤ a1 ∧ a1 < n') ∧ (n ≤ a2 ∧ a2 < n') ∧ (n ≤ a3 ∧ a3 < n') ∧ (n ≤ a4 ∧ a4 < n') ∧ (n ≤ a5 ∧ a5 < n') ∧ (n ≤ a6 ∧ a6 < n') ∧ (n ≤ a7 ∧ a7 < n')) : ∀ i ∈ keys [(a0, x0), (a1, x1), (a2, x2), (a3, x3), (a4, x4), (a5, x5), (a6, x6), (a7, x7)], n ≤ i ∧ i < n' := by
  intro i hi; simp only [keys, List.map_cons, List.map_nil, List.mem_cons, List.not_mem_nil, or_false] at hi; omega
theorem kb9 {n a0 a1 a2 a3 a4 a5 a6 a7 a8 : Nat} {x0 x1 x2 x3 x4 x5 x6 x7 x8 : Option AObj} (h : a0 < n ∧ a1 < n ∧ a2 < n ∧ a3 < n ∧ a4 < n ∧ a5 < n ∧ a6 < n ∧ a7 < n ∧ a8 < n) : ∀ i ∈ keys [(a0, x0), (a1, x1), (a2, x2), (a3, x3), (a4, x4), (a5, x5), (a6, x6), (a7, x7), (a8, x8)], i < n := by
  intro i hi; simp only [keys, List.map_cons, List.map_nil, List.mem_cons, List.not_mem_nil, or_false] at hi; omega
theorem kc9 {n n' a0 a1 a2 a3 a4 a5 a6 a7 a8 : Nat} {x0 x1 x2 x3 x4 x5 x6 x7 x8 : Option AObj} (h : (n ≤ a0 ∧ a0 < n') ∧ (n ≤ a1 ∧ a1 < n') ∧ (n ≤ a2 ∧ a2 < n') ∧ (n ≤ a3 ∧ a3 < n') ∧ (n ≤ a4 ∧ a4 < n') ∧ (n ≤ a5 ∧ a5 < n') ∧ (n ≤ a6 ∧ a6 < n') ∧ (n ≤ a7 ∧ a7 < n') ∧ (n ≤ a8 ∧ a8 < n')) : ∀ i ∈ keys [(a0, x0), (a1, x1), (a2, x2), (a3, x3), (a4, x4), (a5, x5), (a6, x6), (a7, x7), (a8, x8)], n ≤ i ∧ i < n' := by
  intro i hi; simp only [keys, List.map_cons, List.map_nil, List.mem_cons, List.not_mem_nil, or_false] at hi; omega
theorem kb10 {n a0 a1 a2 a3 a4 a5 a6 a7 a8 a9 : Nat} {x0 x1 x2 x3 x4 x5 x6 x7 x8 x9 : Option AObj} (h : a0 < n ∧ a1 < n ∧ a2 < n ∧ a3 < n ∧ a4 < n ∧ a5 < n ∧ a6 < n ∧ a7 < n ∧ a8 < n ∧ a9 < n) : ∀ i ∈ keys [(a0, x0), (a1, x1), (a2, x2), (a3, x3), (a4, x4), (a5, x5), (a6, x6), (a7, x7), (a8, x8), (a9, x9)], i < n := by
  intro i hi; simp only [keys, List.map_cons, List.map_nil, List.mem_cons, List.not_mem_nil, or_false] at hi; omega
theorem kc10 {n n' a0 a1 a2 a3 a4 a5 a6 a7 a8 a9 : Nat} {x0 x1 x2 x3 x4 x5 x6 x7 x8 x9 : Option AObj} (h : (n ≤ a0 ∧ a0 < n') ∧ (n ≤ a1 ∧ a1 < n') ∧ (n ≤ a2 ∧ a2 < n') ∧ (n ≤ a3 ∧ a3 < n') ∧ (n ≤ a4 ∧ a4 < n') ∧ (n ≤ a5 ∧ a5 < n') ∧ (n ≤ a6 ∧ a6 < n') ∧ (n ≤ a7 ∧ a7 < n') ∧ (n ≤ a8 ∧ a8 < n') ∧ (n ≤ a9 ∧ a9 < n')) : ∀ i ∈ keys [(a0, x0), (a1, x1), (a2, x2), (a3, x3), (a4, x4), (a5, x5), (a6, x6), (a7, x7), (a8, x8), (a9, x9)], n ≤ i ∧ i < n' := by
  intro i hi; simp only [keys, List.map_cons, List.map_nil, List.mem_cons, List.not_mem_nil, or_false] at hi; omega
theorem kb11 {n a0 a1 a2 a3 a4 a5 a6 a7 a8 a9 a10 : Nat} {x0 x1 x2 x3 x4 x5 x6 x7 x8 x9 x10 : Option AObj} (h : a0 < n ∧ a1 < n ∧ a2 < n ∧ a3 < n ∧ a4 < n ∧ a5 < n ∧ a6 < n ∧ a7 < n ∧ a8 < n ∧ a9 < n ∧ a10 < n) : ∀ i ∈ keys [(a0, x0), (a1, x1), (a2, x2), (a3, x3), (a4, x4), (a5, x5), (a6, x6), (a7, x7), (a8, x8), (a9, x9), (a10, x10)], i < n := by
  intro i hi; simp only [keys, List.map_cons, List.map_nil, List.mem_cons, List.not_mem_nil, or_false] at hi; omega
theorem kc11 {n n' a0 a1 a2 a3 a4 a5 a6 a7 a8 a9 a10 : Nat} {x0 x1 x2 x3 x4 x5 x6 x7 x8 x9 x10 : Option AObj} (h : (n ≤ a0 ∧ a0 < n') ∧ (n ≤ a1 ∧ a1 < n') ∧ (n ≤ a2 ∧ a2 < n') ∧ (n ≤ a3 ∧ a3 < n') ∧ (n ≤ a4 ∧ a4 < n') ∧ (n ≤ a5 ∧ a5 < n') ∧ (n ≤ a6 ∧ a6 < n') ∧ (n ≤ a7 ∧ a7 < n') ∧ (n ≤ a8 ∧ a8 < n') ∧ (n ≤ a9 ∧ a9 < n') ∧ (n ≤ a10 ∧ a10 < n')) : ∀ i ∈ keys [(a0, x0), (a1, x1), (a2, x2), (a3, x3), (a4, x4), (a5, x5), (a6, x6), (a7, x7), (a8, x8), (a9, x9), (a10, x10)], n ≤ i ∧ i < n' := by
  intro i hi; simp only [keys, List.map_cons, List.map_nil, List.mem_cons, List.not_mem_nil, or_false] at hi; omega
theorem kb12 {n a0 a1 a2 a3 a4 a5 a6 a7 a8 a9 a10 a11 : Nat} {x0 x1 x2 x3 x4 x5 x6 x7 x8 x9 x10 x11 : Option AObj} (h : a0 < n ∧ a1 < n ∧ a2 < n ∧ a3 < n ∧ a4 < n ∧ a5 < n ∧ a6 < n ∧ a7 < n ∧ a8 < n ∧ a9 < n ∧ a10 < n ∧ a11 < n) : ∀ i ∈ keys [(a0, x0), (a1, x1), (a2, x2), (a3, x3), (a4, x4), (a5, x5), (a6, x6), (a7, x7), (a8, x8), (a9, x9), (a10, x10), (a11, x11)], i < n := by
  intro i hi; simp only [keys, List.map_cons, List.map_nil, List.mem_cons, List.not_mem_nil, or_false] at hi; omega
theorem kc12 {n n' a0 a1 a2 a3 a4 a5 a6 a7 a8 a9 a10 a11 : Nat} {x0 x1 x2 x3 x4 x5 x6 x7 x8 x9 x10 x11 : Option AObj} (h : (n ≤ a0 ∧ a0 < n') ∧ (n ≤ a1 ∧ a1 < n') ∧ (n ≤ a2 ∧ a2 < n') ∧ (n ≤ a3 ∧ a3 < n') ∧ (n ≤ a4 ∧ a4 < n') ∧ (n ≤ a5 ∧ a5 < n') ∧ (n ≤ a6 ∧ a6 < n') ∧ (n ≤ a7 ∧ a7 < n') ∧ (n ≤ a8 ∧ a8 < n') ∧ (n ≤ a9 ∧ a9 < n') ∧ (n ≤ a10 ∧ a10 < n') ∧ (n ≤ a11 ∧ a11 < n')) : ∀ i ∈ keys [(a0, x0), (a1, x1), (a2, x2), (a3, x3), (a4, x4), (a5, x5), (a6, x6), (a7, x7), (a8, x8), (a9, x9), (a10, x10), (a11, x11)], n ≤ i ∧ i < n' := by
  intro i hi; simp only [keys, List.map_cons, List.map_nil, List.mem_cons, List.not_mem_nil, or_false] at hi; omega
theorem kb13 {n a0 a1 a2 a3 a4 a5 a6 a7 a8 a9 a10 a11 a12 : Nat} {x0 x1 x2 x3 x4 x5 x6 x7 x8 x9 x10 x11 x12 : Option AObj} (h : a0 < n ∧ a1 < n ∧ a2 < n ∧ a3 < n ∧ a4 < n ∧ a5 < n ∧ a6 < n ∧ a7 < n ∧ a8 < n ∧ a9 < n ∧ a10 < n ∧ a11 < n ∧ a12 < n) : ∀ i ∈ keys [(a0, x0), (a1, x1), (a2, x2), (a3, x3), (a4, x4), (a5, x5), (a6, x6), (a7, x7), (a8, x8), (a9, x9), (a10, x10), (a11, x11), (a12, x12)], i < n := by
  intro i hi; simp only [keys, List.map_cons, List.map_nil, List.mem_cons, List.not_mem_nil, or_false] at hi; omega
theorem kc13 {n n' a0 a1 a2 a3 a4 a5 a6 a7 a8 a9 a10 a11 a12 : Nat} {x0 x1 x2 x3 x4 x5 x6 x7 x8 x9 x10 x11 x12 : Option AObj} (h : (n ≤ a0 ∧ a0 < n') ∧ (n ≤ a1 ∧ a1 < n') ∧ (n ≤ a2 ∧ a2 < n') ∧ (n ≤ a3 ∧ a3 < n') ∧ (n ≤ a4 ∧ a4 < n') ∧ (n ≤ a5 ∧ a5 < n') ∧ (n ≤ a6 ∧ a6 < n') ∧ (n ≤ a7 ∧ a7 < n') ∧ (n ≤ a8 ∧ a8 < n') ∧ (n ≤ a9 ∧ a9 < n') ∧ (n ≤ a10 ∧ a10 < n') ∧ (n ≤ a11 ∧ a11 < n') ∧ (n ≤ a12 ∧ a12 < n')) : ∀ i ∈ keys [(a0, x0), (a1, x1), (a2, x2), (a3, x3), (a4, x4), (a5, x5), (a6, x6), (a7, x7), (a8, x8), (a9, x9), (a10, x10), (a11, x11), (a12, x12)], n ≤ i ∧ i < n' := by
  intro i hi; simp only [keys, List.map_cons, List.map_nil, List.mem_cons, List.not_mem_nil, or_false] at hi; omega
theorem kb14 {n a0 a1 a2 a3 a4 a5 a6 a7 a8 a9 a10 a11 a12 a13 : Nat} {x0 x1 x2 x3 x4 x5 x6 x7 x8 x9 x10 x11 x12 x13 : Option AObj} (h : a0 < n ∧ a1 < n ∧ a2 < n ∧ a3 < n ∧ a4 < n ∧ a5 < n ∧ a6 < n ∧ a7 < n ∧ a8 < n ∧ a9 < n ∧ a10 < n ∧ a11 < n ∧ a12 < n ∧ a13 < n) : ∀ i ∈ keys [(a0, x0), (a1, x1), (a2, x2), (a3, x3), (a4, x4), (a5, x5), (a6, x6), (a7, x7), (a8, x8), (a9, x9), (a10, x10), (a11, x11), (a12, x12), (a13, x13)], i < n := by
  intro i hi; simp only [keys, List.map_cons, List.map_nil, List.mem_cons, List.not_mem_nil, or_false] at hi; omega
theorem kc14 {n n' a0 a1 a2 a3 a4 a5 a6 a7 a8 a9 a10 a11 a12 a13 : Nat} {x0 x1 x2 x3 x4 x5 x6 x7 x8 x9 x10 x11 x12 x13 : Option AObj} (h : (n ≤ a0 ∧ a0 < n') ∧ (n ≤ a1 ∧ a1 < n') ∧ (n ≤ a2 ∧ a2 < n') ∧ (n ≤ a3 ∧ a3 < n') ∧ (n ≤ a4 ∧ a4 < n') ∧ (n ≤ a5 ∧ a5 < n') ∧ (n ≤ a6 ∧ a6 < n') ∧ (n ≤ a7 ∧ a7 < n') ∧ (n ≤ a8 ∧ a8 < n') ∧ (n ≤ a9 ∧ a9 < n') ∧ (n ≤ a10 ∧ a10 < n') ∧ (n ≤ a11 ∧ a11 < n') ∧ (n ≤ a12 ∧ a12 < n') ∧ (n ≤ a13 ∧ a13 < n')) : ∀ i ∈ keys [(a0, x0), (a1, x1), (a2, x2), (a3, x3), (a4, x4), (a5, x5), (a6, x6), (a7, x7), (a8, x8), (a9, x9), (a10, x10), (a11, x11), (a12, x12), (a13, x13)], n ≤ i ∧ i < n' := by
  intro i hi; simp only [keys, List.map_cons, List.map_nil, List.mem_cons, List.not_mem_nil, or_false] at hi; omega
theorem kb15 {n a0 a1 a2 a3 a4 a5 a6 a7 a8 a9 a10 a11 a12 a13 a14 : Nat} {x0 x1 x2 x3 x4 x5 x6 x7 x8 x9 x10 x11 x12 x13 x14 : Option AObj} (h : a0 < n ∧ a1 < n ∧ a2 < n ∧ a3 < n ∧ a4 < n ∧ a5 < n ∧ a6 < n ∧ a7 < n ∧ a8 < n ∧ a9 < n ∧ a10 < n ∧ a11 < n ∧ a12 < n ∧ a13 < n ∧ a14 < n) : ∀ i ∈ keys [(a0, x0), (a1, x1), (a2, x2), (a3, x3), (a4, x4), (a5, x5), (a6, x6), (a7, x7), (a8, x8), (a9, x9), (a10, x10), (a11, x11), (a12, x12), (a13, x13), (a14, x14)], i < n := by
  intro i hi; simp only [keys, List.map_cons, List.map_nil, List.mem_cons, List.not_mem_nil, or_false] at hi; omega
theorem kc15 {n n' a0 a1 a2 a3 a4 a5 a6 a7 a8 a9 a10 a11 a12 a13 a14 : Nat} {x0 x1 x2 x3 x4 x5 x6 x7 x8 x9 x10 x11 x12 x13 x14 : Option AObj} (h : (n ≤ a0 ∧ a0 < n') ∧ (n ≤ a1 ∧ a1 < n') ∧ (n ≤ a2 ∧ a2 < n') ∧ (n ≤ a3 ∧ a3 < n') ∧ (n ≤ a4 ∧ a4 < n') ∧ (n ≤ a5 ∧ a5 < n') ∧ (n ≤ a6 ∧ a6 < n') ∧ (n ≤ a7 ∧ a7 < n') ∧ (n ≤ a8 ∧ a8 < n') ∧ (n ≤ a9 ∧ a9 < n') ∧ (n ≤ a10 ∧ a10 < n') ∧ (n ≤ a11 ∧ a11 < n') ∧ (n ≤ a12 ∧ a12 < n') ∧ (n ≤ a13 ∧ a13 < n') ∧ (n ≤ a14 ∧ a14 < n')) : ∀ i ∈ keys [(a0, x0), (a1, x1), (a2, x2), (a3, x3), (a4, x4), (a5, x5), (a6, x6), (a7, x7), (a8, x8), (a9, x9), (a10, x10), (a11, x11), (a12, x12), (a13, x13), (a14, x14)], n ≤ i ∧ i < n' := by
  intro i hi; simp only [keys, List.map_cons, List.map_nil, List.mem_cons, List.not_mem_nil, or_false] at hi; omega
theorem kb16 {n a0 a1 a2 a3 a4 a5 a6 a7 a8 a9 a10 a11 a12 a13 a14 a15 : Nat} {x0 x1 x2 x3 x4 x5 x6 x7 x8 x9 x10 x11 x12 x13 x14 x15 : Option AObj} (h : a0 < n ∧ a1 < n ∧ a2 < n ∧ a3 < n ∧ a4 < n ∧ a5 < n ∧ a6 < n ∧ a7 < n ∧ a8 < n ∧ a9 < n ∧ a10 < n ∧ a11 < n ∧ a12 < n ∧ a13 < n ∧ a14 < n ∧ a15 < n) : ∀ i ∈ keys [(a0, x0), (a1, x1), (a2, x2), (a3, x3), (a4, x4), (a5, x5), (a6, x6), (a7, x7), (a8, x8), (a9, x9), (a10, x10), (a11, x11), (a12, x12), (a13, x13), (a14, x14), (a15, x15)], i < n := by
  intro i hi; simp only [keys, List.map_cons, List.map_nil, List.mem_cons, List.not_mem_nil, or_false] at hi; omega
theorem kc16 {n n' a0 a1 a2 a3 a4 a5 a6 a7 a8 a9 a10 a11 a12 a13 a14 a15 : Nat} {x0 x1 x2 x3 x4 x5 x6 x7 x8 x9 x10 x11 x12 x13 x14 x15 : Option AObj} (h : (n ≤ a0 ∧ a0 < n') ∧ (n ≤ a1 ∧ a1 < n') ∧ (n ≤ a2 ∧ a2 < n') ∧ (n ≤ a3 ∧ a3 < n') ∧ (n ≤ a4 ∧ a4 < n') ∧ (n ≤ a5 ∧ a5 < n') ∧ (n ≤ a6 ∧ a6 < n') ∧ (n ≤ a7 ∧ a7 < n') ∧ (n ≤ a8 ∧ a8 < n') ∧ (n ≤ a9 ∧ a9 < n') ∧ (n ≤ a10 ∧ a10 < n') ∧ (n ≤ a11 ∧ a11 < n') ∧ (n ≤ a12 ∧ a12 < n') ∧ (n ≤ a13 ∧ a13 < n') ∧ (n ≤ a14 ∧ a14 < n') ∧ (n ≤ a15 ∧ a15 < n')) : ∀ i ∈ keys [(a0, x0), (a1, x1), (a2, x2), (a3, x3), (a4, x4), (a5, x5), (a6, x6), (a7, x7), (a8, x8), (a9, x9), (a10, x10), (a11, x11), (a12, x12), (a13, x13), (a14, x14), (a15, x15)], n ≤ i ∧ i < n' := by
  intro i hi; simp only [keys, List.map_cons, List.map_nil, List.mem_cons, List.not_mem_nil, or_false] at hi; omega
def memP (a : Nat) : Delta → Prop
  | [] => False
  | (b, _) :: r => a = b ∨ memP a r
def goneP (n n' : Nat) (d : Delta) : Delta → Prop
  | [] => True
  | (a, _) :: r => (memP a d ∨ (n ≤ a ∧ a < n')) ∧ goneP n n' d r
theorem memP_mem {a : Nat} : ∀ {d : Delta}, memP a d → a ∈ keys d
  | [], h => h.elim
  | (b, _) :: r, h => by
    rcases h with rfl | h
    · exact List.mem_cons_self
    · exact List.mem_cons_of_mem _ (memP_mem h)
theorem gone_of {n n' : Nat} {d : Delta} : ∀ {d0 : Delta}, goneP n n' d d0 → ∀ x ∈ keys d0, x ∈ keys d ∨ (n ≤ x ∧ x < n')
  | [], _, x, hx => by simp [keys] at hx
  | (a, o) :: r, h, x, hx => by
    rw [show keys ((a, o) :: r) = a :: keys r from rfl, List.mem_cons] at hx
    rcases hx with rfl | hx
    · exact h.1.imp memP_mem id
    · exact gone_of h.2 x hx
theorem mm {nd D : Delta} {k : Nat} {o : Option AObj} (A : ∀ τ : Store, app nd τ k = o) (B : ∀ τ : Store, app D τ k = o) : k ∈ keys D ∧ ∀ τ : Store, app nd τ k = app D τ k := by
  refine ⟨?_, fun τ => (A τ).trans (B τ).symm⟩
  by_cases h : k ∈ keys D
  · exact h
  · have h1 := B noStore
    have h2 := B (fun _ => some default)
    rw [app_off h] at h1 h2
    rw [← h1] at h2
    cases h2
theorem fac {α : Type} {P : α → Prop} {a : α} {l : List α} (h : P a) (hl : ∀ p ∈ l, P p) : ∀ p ∈ a :: l, P p := by
  intro p hp
  rw [List.mem_cons] at hp
  rcases hp with rfl | hp
  · exact h
  · exact hl p hp
theorem fan {α : Type} {P : α → Prop} : ∀ p ∈ ([] : List α), P p := fun p hp => by cases hp
end Go.Proofs.YtgajcmanompmcaaV
