/- The abstract machine: a region whose order is drawn. -/
import Derived.Test.YtgajcmanompmcaaVmN
set_option linter.unusedVariables false
set_option linter.unusedSimpArgs false
namespace Go.Proofs.YtgajcmanompmcaaV
open Go.RowKit

/-! ### What an operation waits for -/
def dd : List Nat → List Nat
  | [] => []
  | x :: l => if (dd l).contains x then dd l else x :: dd l
theorem mem_dd {x : Nat} : ∀ {l : List Nat}, x ∈ dd l → x ∈ l
  | [], h => by simp [dd] at h
  | y :: l, h => by
    unfold dd at h
    split at h
    · exact List.mem_cons_of_mem _ (mem_dd h)
    · rcases List.mem_cons.1 h with rfl | h
      · exact List.mem_cons_self ..
      · exact List.mem_cons_of_mem _ (mem_dd h)
def row (o : Oper) (acc : List (List Nat)) : List Nat := dd (o.after.toList.flatMap fun e => if Region.binds .any e then e.on :: acc.getD e.on [] else [])
def tab : List Oper → List (List Nat) → List (List Nat)
  | [], acc => acc
  | o :: r, acc => tab r (acc ++ [row o acc])
def B (ops : Array Oper) (j : Nat) : List Nat := (tab ops.toList []).getD j []
theorem tab_pre : ∀ (l : List Oper) (acc : List (List Nat)) (k : Nat), k < acc.length → (tab l acc).getD k [] = acc.getD k []
  | [], acc, k, h => rfl
  | o :: r, acc, k, h => by
    unfold tab
    rw [tab_pre r _ k (by simp; omega)]
    simp only [List.getD_eq_getElem?_getD]
    rw [List.getElem?_append_left h]
theorem tab_at : ∀ (l : List Oper) (acc : List (List Nat)) (k : Nat) (o : Oper), l[k]? = some o → ∀ i ∈ (tab l acc).getD (acc.length + k) [], ∃ e ∈ o.after, Region.binds .any e = true ∧ (i = e.on ∨ (e.on < acc.length + k ∧ i ∈ (tab l acc).getD e.on []))
  | [], acc, k, o, h, i, hi => by simp at h
  | o' :: r, acc, 0, o, h, i, hi => by
    simp at h; subst h
    unfold tab at hi ⊢
    rw [Nat.add_zero, tab_pre _ _ _ (by simp)] at hi
    simp only [List.getD_eq_getElem?_getD] at hi
    rw [List.getElem?_append_right (Nat.le_refl _), Nat.sub_self] at hi
    simp at hi
    have := mem_dd hi
    rw [List.mem_flatMap] at this
    obtain ⟨e, he, hie⟩ := this
    refine ⟨e, by simpa using he, ?_⟩
    split at hie
    · rename_i hb
      refine ⟨hb, ?_⟩
      rcases List.mem_cons.1 hie with h | h
      · exact .inl h
      · right
        have hlt : e.on < acc.length := by
          rcases Nat.lt_or_ge e.on acc.length with h' | h'
          · exact h'
          · simp [List.getD_eq_getElem?_getD, List.getElem?_eq_none h'] at h
        refine ⟨by omega, ?_⟩
        rw [tab_pre _ _ _ (by simp; omega)]
        simp only [List.getD_eq_getElem?_getD] at h ⊢
        rw [List.getElem?_append_left hlt]
        exact h
    · simp at hie
  | o' :: r, acc, k + 1, o, h, i, hi => by
    unfold tab at hi ⊢
    have := tab_at r (acc ++ [row o' acc]) k o (by simpa using h) i (by
      have e : (acc ++ [row o' acc]).length + k = acc.length + (k + 1) := by simp; omega
      rw [e]; exact hi)
    obtain ⟨e, he, hb, hor⟩ := this
    refine ⟨e, he, hb, hor.imp id fun ⟨h1, h2⟩ => ⟨by simp at h1; omega, h2⟩⟩
theorem B_spec {ops : Array Oper} {j : Nat} {o : Oper} (h : ops[j]? = some o) {i : Nat} (hi : i ∈ B ops j) : ∃ e ∈ o.after, Region.binds .any e = true ∧ (i = e.on ∨ (e.on < j ∧ i ∈ B ops e.on)) := by
  have := tab_at ops.toList [] j o (by simpa using h) i (by simpa [B] using hi)
  simpa [B] using this

def parOk (ops : Array Oper) : Bool :=
  (List.range ops.size).all fun j => match ops[j]? with
    | none => false
    | some o => (o.after.toList.all fun e => !Region.binds .any e || Nat.blt e.on j) &&
      ((List.range j).all fun i => (B ops j).contains i || match ops[i]? with
        | none => false
        | some oi => oi.apart ops o)
theorem parOk_edges {ops : Array Oper} (h : parOk ops = true) {j : Nat} {o : Oper} (hj : ops[j]? = some o) : ∀ e ∈ o.after, Region.binds .any e = true → e.on < j := by
  intro e he hb
  have hlt : j < ops.size := (Array.getElem?_eq_some_iff.1 hj).1
  have h1 := List.all_eq_true.1 h j (List.mem_range.2 hlt)
  rw [hj] at h1
  simp only [Bool.and_eq_true] at h1
  have h2 := List.all_eq_true.1 h1.1 e (by simpa using he)
  simp only [hb, Bool.not_true, Bool.false_or] at h2
  exact Nat.le_of_ble_eq_true h2
theorem parOk_apart {ops : Array Oper} (h : parOk ops = true) {i j : Nat} {oi oj : Oper} (hi : ops[i]? = some oi) (hj : ops[j]? = some oj) (hij : i < j) (hn : i ∉ B ops j) : oi.apart ops oj = true := by
  have hlt : j < ops.size := (Array.getElem?_eq_some_iff.1 hj).1
  have h1 := List.all_eq_true.1 h j (List.mem_range.2 hlt)
  rw [hj] at h1
  simp only [Bool.and_eq_true] at h1
  have h2 := List.all_eq_true.1 h1.2 i (List.mem_range.2 hij)
  rw [hi] at h2
  simp only [Bool.or_eq_true, List.contains_iff_mem] at h2
  exact h2.resolve_left hn
theorem B_lt {ops : Array Oper} (h : parOk ops = true) : ∀ (j : Nat) {o : Oper}, ops[j]? = some o → ∀ i ∈ B ops j, i < j := by
  intro j
  induction j using Nat.strongRecOn with
  | _ j ih =>
    intro o hj i hi
    obtain ⟨e, he, hb, hor⟩ := B_spec hj hi
    have hlt := parOk_edges h hj e he hb
    rcases hor with rfl | ⟨_, h2⟩
    · exact hlt
    · have hes : e.on < ops.size := by have := (Array.getElem?_eq_some_iff.1 hj).1; omega
      have := ih e.on hlt (Array.getElem?_eq_getElem hes) i h2
      omega

/-! ### What stands when a part of the operations has come up -/
def selT (ops : Array Oper) (τ : Tm) (vs : Nat → Value) (S : Nat → Bool) : Nat → Tm
  | 0 => τ
  | j + 1 => if S j then upd (selT ops τ vs S j) ((ops[j]?).bind (·.dst)) (vs j) else selT ops τ vs S j
def selD (Ds : Nat → Delta) (S : Nat → Bool) : Nat → Delta
  | 0 => []
  | j + 1 => if S j then Ds j ++ selD Ds S j else selD Ds S j
theorem selT_congr {ops : Array Oper} {τ : Tm} {vs : Nat → Value} {S1 S2 : Nat → Bool} {t : Nat} : ∀ (L : Nat), (∀ i, i < L → (ops[i]?).bind (·.dst) = some t → S1 i = S2 i) → selT ops τ vs S1 L t = selT ops τ vs S2 L t
  | 0, _ => rfl
  | j + 1, h => by
    have ih := selT_congr (ops := ops) (τ := τ) (vs := vs) j fun i hi => h i (by omega)
    have hj := h j (by omega)
    unfold selT
    cases hd : (ops[j]?).bind (·.dst) with
    | none =>
      have e : ∀ x, upd x none (vs j) = x := fun _ => rfl
      simp only [e, ite_self]
      exact ih
    | some d =>
      by_cases hdt : d = t
      · subst hdt
        rw [hj hd]
        split
        · simp [upd]
        · exact ih
      · have e : ∀ x, upd x (some d) (vs j) t = x t := fun x => by simp only [upd]; rw [if_neg (fun e => hdt e.symm)]
        cases S1 j <;> cases S2 j <;> simp [e, ih]
theorem selD_congr {Ds : Nat → Delta} {S1 S2 : Nat → Bool} {σ : Store} {x : Nat} : ∀ (L : Nat), (∀ i, i < L → x ∈ keys (Ds i) → S1 i = S2 i) → app (selD Ds S1 L) σ x = app (selD Ds S2 L) σ x
  | 0, _ => rfl
  | j + 1, h => by
    have ih := selD_congr (Ds := Ds) (σ := σ) j fun i hi => h i (by omega)
    have hj := h j (by omega)
    unfold selD
    by_cases hk : x ∈ keys (Ds j)
    · rw [hj hk]
      split
      · rw [app_append, app_append]; exact app_on hk
      · exact ih
    · have e : ∀ d, app (Ds j ++ d) σ x = app d σ x := fun d => by rw [app_append, app_off hk]
      cases S1 j <;> cases S2 j <;> simp [e, ih]
def pick (S : Nat → Bool) (j : Nat) : Nat → Bool := fun i => if i = j then true else S i

/-- Which operations may come up on either side of operation j. -/
def loose (ops : Array Oper) (i j : Nat) : Bool := i != j && !(B ops j).contains i && !(B ops i).contains j
/-- The store that operation j is run on: what it waits for has come up; what may be written beside it is out of reach. -/
def restr (ops : Array Oper) (K : Nat → List Nat) (Ds : Nat → Delta) (σ : Store) (j : Nat) : Store := fun x =>
  if (List.range ops.size).any (fun i => loose ops i j && (K i).contains x) then none else app (selD Ds (fun i => (B ops j).contains i) j) σ x

def allB : Nat → Bool := fun _ => true
inductive Par (E : Env) (C : CallRel) (ops : Array Oper) (m : Nat) (τ : Tm) (n : Nat) (σ : Store) : Tm → Nat → Delta → Prop
  | mk (vs : Nat → Value) (ns : Nat → Nat) (Ds : Nat → Delta) (K : Nat → List Nat) (h0 : ns 0 = n) (hok : parOk ops = true) (hK : ∀ j, ∀ x ∈ keys (Ds j), x ∈ K j)
      (hst : ∀ j o, ops[j]? = some o → dstOk m o = true ∧ (if wantA ops (selT ops τ vs allB j) o = true then Step E C (selT ops τ vs allB j) o (ns j) (restr ops K Ds σ j) (vs j) (ns (j + 1)) (Ds j) else vs j = undef ∧ ns (j + 1) = ns j ∧ Ds j = [])) :
      Par E C ops m τ n σ (selT ops τ vs allB ops.size) (ns ops.size) (selD Ds allB ops.size)

theorem evL_congr {τ τ' : Tm} : ∀ {l : List Operand}, (∀ x ∈ l, args1 τ x = args1 τ' x) → evL τ l = evL τ' l
  | [], _ => rfl
  | x :: l, h => by simp only [evL, h x (by simp), evL_congr fun y hy => h y (List.mem_cons_of_mem _ hy)]
theorem evP_congr {τ τ' : Tm} : ∀ {l : List (Nat × Operand)}, (∀ x ∈ l, args1 τ x.2 = args1 τ' x.2) → evP τ l = evP τ' l
  | [], _ => rfl
  | (i, x) :: l, h => by simp only [evP, h (i, x) (by simp), evP_congr fun y hy => h y (List.mem_cons_of_mem _ hy)]
theorem aop0_congr {E : Env} {τ τ' : Tm} {o : Oper} (h : ∀ x ∈ o.op.operands, args1 τ x = args1 τ' x) : aop0 E τ o = aop0 E τ' o := by
  obtain ⟨dst, op, type, pos, after, guard⟩ := o
  have pairs : ∀ ps : Array (Nat × Operand), (∀ x ∈ (ps.toList.map (·.2)).toArray, args1 τ x = args1 τ' x) → evP τ ps.toList = evP τ' ps.toList := fun ps hp => evP_congr fun x hx => hp x.2 (by simp; exact ⟨x.1, by simpa using hx⟩)
  cases op <;> simp only [Op.operands] at h <;> simp only [aop0, ev]
  case build t ps => rw [pairs ps h]
  case buildSlice t n ps => rw [pairs ps h]
  case makeFunc fn first captured =>
    rw [evL_congr (l := first.toList) fun x hx => h x (by simp at hx ⊢; exact .inl hx), evL_congr (l := captured.toList) fun x hx => h x (by simp at hx ⊢; exact .inr hx)]
  case call c =>
    split
    · rename_i b hb
      rw [evL_congr (l := c.args.toList) fun x hx => h x (by simp [Call.operands]; exact .inr (by simpa using hx))]
    · rfl
  case slice t x lo hi mx =>
    have hx := h x (by simp)
    rw [hx]
    cases lo <;> cases hi <;> cases mx <;> simp only [evO, ev] <;> simp_all
  all_goals first | rfl | (simp only [h _ (by simp)]; done) | (simp_all; done)

section
variable {P : Program} {E : Env} {C : CallRel} {ι : Inj} {N : Nat} {w0 w : World}
theorem ovals_congr {τ τ' : Tm} {o : Oper} (h : ∀ x ∈ o.op.operands, args1 τ x = args1 τ' x) : ovals τ o = ovals τ' o := by
  obtain ⟨dst, op, type, pos, after, guard⟩ := o
  cases op <;> simp only [Op.operands] at h <;> simp only [ovals]
  case index t x y => rw [h x (by simp), h y (by simp)]
  case binOp op t x y u => rw [h x (by simp), h y (by simp)]
  case slice t x lo hi mx =>
    cases mx with
    | some m => cases lo <;> cases hi <;> rfl
    | none => 
      cases lo with
      | none => cases hi with
        | none => rfl
        | some q => simp only [h x (by simp), h q (by simp)]
      | some l => cases hi with
        | none => simp only [h x (by simp), h l (by simp)]
        | some q => simp only [h x (by simp), h l (by simp), h q (by simp)]
  case call c =>
    rw [evL_congr (l := c.args.toList) fun x hx => h x (by simp [Call.operands]; exact .inr (by simpa using hx))]
theorem aop_congr {E : Env} {τ τ' : Tm} {o : Oper} (h : ∀ x ∈ o.op.operands, args1 τ x = args1 τ' x) : aop E τ o = aop E τ' o := by
  unfold aop sop
  rw [ovals_congr h, aop0_congr h]
theorem Step.congr {τ τ' : Tm} {o : Oper} {n n' : Nat} {σ : Store} {v : Value} {d : Delta} (h : Step E C τ o n σ v n' d) (hc : ∀ x ∈ o.op.operands, args1 τ x = args1 τ' x) : Step E C τ' o n σ v n' d := by
  cases h with
  | op h => exact .op (by rw [← aop_congr hc]; exact h)
  | @call c f g first cap args ho hcc hf ha h =>
    have hops : o.op.operands = #[f] ++ c.args := by rw [ho]; simp [Op.operands, Call.operands, hcc]
    refine .call ho hcc (by rw [← hc f (by rw [hops]; simp)]; exact hf) (by rw [← evL_congr fun x hx => hc x (by rw [hops]; simp; exact .inr (by simpa using hx))]; exact ha) h
theorem want_congr {ops : Array Oper} {τ τ' : Tm} {o : Oper} (h : ∀ g u t, o.guard = some (g, u) → (ops[g]?).bind (·.dst) = some t → τ t = τ' t) : wantA ops τ o = wantA ops τ' o := by
  unfold wantA
  cases hg : o.guard with
  | none => rfl
  | some gu =>
    obtain ⟨g, u⟩ := gu
    simp only
    cases hd : (ops[g]?).bind (·.dst) with
    | none => rfl
    | some t => simp only [h g u t hg hd]

/-- The numbers in a region. -/
structure ParOk (ops : Array Oper) (n : Nat) (σ : Store) (ns : Nat → Nat) (Ds : Nat → Delta) (K : Nat → List Nat) : Prop where
  ok : parOk ops = true
  inK : ∀ j, ∀ x ∈ Go.Proofs.YtgajcmanompmcaaV.keys (Ds j), x ∈ K j
  mono : ∀ j, j < ops.size → ns j ≤ ns (j + 1)
  keys : ∀ j, j < ops.size → ∀ x ∈ Go.Proofs.YtgajcmanompmcaaV.keys (Ds j), (restr ops K Ds σ j x).isSome = true ∨ (ns j ≤ x ∧ x < ns (j + 1))
theorem ParOk.le {ops : Array Oper} {n : Nat} {σ : Store} {ns : Nat → Nat} {Ds : Nat → Delta} {K : Nat → List Nat} (h : ParOk ops n σ ns Ds K) : ∀ {i j : Nat}, i ≤ j → j ≤ ops.size → ns i ≤ ns j := by
  intro i j hij
  induction hij with
  | refl => intro _; exact Nat.le_refl _
  | @step j _ ih => intro hj; exact Nat.le_trans (ih (by omega)) (h.mono j (by omega))
theorem loose_symm {ops : Array Oper} {i j : Nat} (h : loose ops i j = true) : loose ops j i = true := by
  simp only [loose, Bool.and_eq_true, bne_iff_ne, Bool.not_eq_true'] at h ⊢
  exact ⟨⟨h.1.1.symm, h.2⟩, h.1.2⟩
theorem restr_none {ops : Array Oper} {K : Nat → List Nat} {Ds : Nat → Delta} {σ : Store} {i j x : Nat} (hi : i < ops.size) (hl : loose ops i j = true) (hx : x ∈ K i) : restr ops K Ds σ j x = none := by
  unfold restr
  rw [if_pos]
  rw [List.any_eq_true]
  exact ⟨i, List.mem_range.2 hi, by simp [hl, hx]⟩
/-- What two loose operations write is apart. -/
theorem ParOk.apart {ops : Array Oper} {n : Nat} {σ : Store} {ns : Nat → Nat} {Ds : Nat → Delta} {K : Nat → List Nat} (h : ParOk ops n σ ns Ds K) {i j x : Nat} (hi : i < ops.size) (hj : j < ops.size) (hl : loose ops i j = true) (hx : x ∈ Go.Proofs.YtgajcmanompmcaaV.keys (Ds i)) : x ∉ Go.Proofs.YtgajcmanompmcaaV.keys (Ds j) := by
  intro hx2
  have r1 := restr_none (σ := σ) (Ds := Ds) hi hl (h.inK i x hx)
  have r2 := restr_none (σ := σ) (Ds := Ds) hj (loose_symm hl) (h.inK j x hx2)
  rcases h.keys i hi x hx with h1 | h1
  · rw [r2] at h1; cases h1
  · rcases h.keys j hj x hx2 with h2 | h2
    · rw [r1] at h2; cases h2
    · have hne : i ≠ j := by
        simp only [loose, Bool.and_eq_true, bne_iff_ne] at hl; exact hl.1.1
      rcases Nat.lt_or_gt_of_ne hne with hlt | hgt
      · have := h.le (i := i + 1) (j := j) hlt (by omega); omega
      · have := h.le (i := j + 1) (j := i) hgt (by omega); omega
theorem ParOk.old {ops : Array Oper} {n : Nat} {σ : Store} {ns : Nat → Nat} {Ds : Nat → Delta} {K : Nat → List Nat} (h : ParOk ops n σ ns Ds K) (h0 : ns 0 = n) : ∀ j, j < ops.size → ∀ x ∈ Go.Proofs.YtgajcmanompmcaaV.keys (Ds j), (σ x).isSome = true ∨ (n ≤ x ∧ x < ns ops.size) := by
  intro j
  induction j using Nat.strongRecOn with
  | _ j ih =>
    intro hj x hx
    have a1 := h.le (i := 0) (j := j) (Nat.zero_le _) (by omega)
    have a2 := h.le (i := j + 1) (j := ops.size) hj (Nat.le_refl _)
    rcases h.keys j hj x hx with h1 | h1
    · have h2 : (app (selD Ds (fun i => (B ops j).contains i) j) σ x).isSome = true := by
        unfold restr at h1
        split at h1
        · cases h1
        · exact h1
      have key : ∀ L, L ≤ j → (app (selD Ds (fun i => (B ops j).contains i) L) σ x).isSome = true → (σ x).isSome = true ∨ ∃ i, i < L ∧ x ∈ Go.Proofs.YtgajcmanompmcaaV.keys (Ds i) := by
        intro L
        induction L with
        | zero => intro _ h; exact .inl h
        | succ L ihL =>
          intro hL h
          unfold selD at h
          split at h
          · rw [app_append] at h
            rcases app_isSome h with h | h
            · exact .inr ⟨L, by omega, h⟩
            · exact (ihL (by omega) h).imp id fun ⟨i, h1, h2⟩ => ⟨i, by omega, h2⟩
          · exact (ihL (by omega) h).imp id fun ⟨i, h1, h2⟩ => ⟨i, by omega, h2⟩
      rcases key j (Nat.le_refl _) h2 with h3 | ⟨i, hi, h3⟩
      · exact .inl h3
      · exact ih i hi (by omega) x h3
    · exact .inr (by omega)
theorem selD_keys {Ds : Nat → Delta} {S : Nat → Bool} {x : Nat} : ∀ {L : Nat}, x ∈ keys (selD Ds S L) → ∃ i, i < L ∧ S i = true ∧ x ∈ keys (Ds i)
  | 0, h => by simp [selD, keys] at h
  | L + 1, h => by
    unfold selD at h
    split at h
    · rename_i hs
      rw [keys_append, List.mem_append] at h
      rcases h with h | h
      · exact ⟨L, by omega, hs, h⟩
      · obtain ⟨i, h1, h2⟩ := selD_keys h; exact ⟨i, by omega, h2⟩
    · obtain ⟨i, h1, h2⟩ := selD_keys h; exact ⟨i, by omega, h2⟩
theorem selT_pick {ops : Array Oper} {τ : Tm} {vs : Nat → Value} {S : Nat → Bool} {j : Nat} : ∀ (L : Nat), j < L → S j = false → (∀ i, i < L → j < i → S i = true → ∀ d, (ops[i]?).bind (·.dst) = some d → (ops[j]?).bind (·.dst) ≠ some d) → selT ops τ vs (pick S j) L = upd (selT ops τ vs S L) ((ops[j]?).bind (·.dst)) (vs j)
  | 0, h, _, _ => by omega
  | L + 1, h, hS, hd => by
    by_cases hL : j = L
    · subst hL
      have e : ∀ M, M ≤ j → selT ops τ vs (pick S j) M = selT ops τ vs S M := by
        intro M
        induction M with
        | zero => intro _; rfl
        | succ M ih =>
          intro hM
          unfold selT
          rw [ih (by omega)]
          simp [pick, show M ≠ j by omega]
      unfold selT
      rw [e j (Nat.le_refl _), hS]
      simp [pick]
    · have ih := selT_pick (ops := ops) (τ := τ) (vs := vs) L (by omega) hS fun i hi => hd i (by omega)
      unfold selT
      rw [ih]
      have hp : pick S j L = S L := by simp only [pick]; rw [if_neg (fun e => hL e.symm)]
      rw [hp]
      split
      · rename_i hSL
        cases hdj : (ops[j]?).bind (·.dst) with
        | none => rfl
        | some dj =>
          cases hdl : (ops[L]?).bind (·.dst) with
          | none => rfl
          | some dl =>
            have hne : dj ≠ dl := fun e => hd L (by omega) (by omega) hSL dl hdl (by rw [hdj, e])
            funext t
            simp only [upd]
            by_cases h1 : t = dl <;> by_cases h2 : t = dj
            · exact absurd (h2.symm.trans h1) hne
            · rw [if_pos h1, if_neg h2, if_pos h1]
            · rw [if_neg h1, if_pos h2, if_pos h2]
            · rw [if_neg h1, if_neg h2, if_neg h2, if_neg h1]
      · rfl
theorem selD_pick {Ds : Nat → Delta} {S : Nat → Bool} {σ : Store} {j : Nat} : ∀ (L : Nat), j < L → S j = false → (∀ i, i < L → j < i → S i = true → ∀ x ∈ keys (Ds i), x ∉ keys (Ds j)) → app (selD Ds (pick S j) L) σ = app (Ds j) (app (selD Ds S L) σ)
  | 0, h, _, _ => by omega
  | L + 1, h, hS, hd => by
    by_cases hL : j = L
    · subst hL
      have e : ∀ M, M ≤ j → selD Ds (pick S j) M = selD Ds S M := by
        intro M
        induction M with
        | zero => intro _; rfl
        | succ M ih =>
          intro hM
          unfold selD
          rw [ih (by omega)]
          simp [pick, show M ≠ j by omega]
      unfold selD
      rw [e j (Nat.le_refl _), hS]
      simp [pick, app_append]
    · have ih := selD_pick (Ds := Ds) (σ := σ) L (by omega) hS fun i hi => hd i (by omega)
      unfold selD
      have hp : pick S j L = S L := by simp only [pick]; rw [if_neg (fun e => hL e.symm)]
      rw [hp]
      split
      · rename_i hSL
        rw [app_append, ih, app_append]
        funext x
        by_cases h1 : x ∈ keys (Ds L)
        · have h2 := hd L (by omega) (by omega) hSL x h1
          rw [app_off h2, app_on (σ := app (Ds j) (app (selD Ds S L) σ)) (τ := app (selD Ds S L) σ) h1]
        · rw [app_off h1]
          by_cases h2 : x ∈ keys (Ds j)
          · exact app_on h2
          · rw [app_off h2, app_off h2, app_off h1]
      · exact ih
end
end Go.Proofs.YtgajcmanompmcaaV
