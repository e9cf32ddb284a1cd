/- The abstract machine: the calculus, for regions whose order is drawn; and a law's call. -/
import Derived.Test.YtgajcmanompmcaaVmW
set_option linter.unusedVariables false
set_option linter.unusedSimpArgs false
namespace Go.Proofs.YtgajcmanompmcaaV
open Go Go.RowKit

theorem Step.mono {P : Program} {E : Env} {τ : Tm} {o : Oper} {n n' : Nat} {σ σ2 : Store} {v : Value} {d : Delta} (h : Step E (SC P E.den) τ o n σ v n' d) (hs : Sub σ σ2) : Step E (SC P E.den) τ o n σ2 v n' d := by
  cases h with
  | op h => exact .op (T.mono hs h)
  | call ho hc hf ha h => exact .call ho hc hf ha (h.mono hs)
/-- The store that the operation behind these sees: what it waits for has come up. -/
def seenBy (ops : Array Oper) (Ds : List Delta) (σ : Store) : Store := app (selD (fun i => Ds.getD i []) (fun i => (B ops Ds.length).contains i) Ds.length) σ
/-- Operation t comes behind all ahead of it, and ahead of all behind it. -/
def tight (ops : Array Oper) (t : Nat) : Bool := (List.range ops.size).all fun i => if Nat.blt i t then (B ops t).contains i else Nat.beq i t || ((B ops i).contains t && (B ops t).all (fun k => (B ops i).contains k))
def trans (ops : Array Oper) : Bool := (List.range ops.size).all fun j => (B ops j).all fun i => (B ops i).all fun k => (B ops j).contains k
/-- All that is loose to operation j is among these. -/
def looseIn (ops : Array Oper) (j : Nat) (LI : List Nat) : Bool := (List.range ops.size).all fun i => !(loose ops j i) || LI.contains i
def WrOk (ops : Array Oper) (nb : Nat) (md : List (Option (List Nat))) (Ds : List Delta) (n n1 x : Nat) : Prop := x < n1 ∧ (n ≤ x ∨ tight ops Ds.length = true ∨ ((x < nb ∨ (trans ops = true ∧ ∃ i, i ∈ B ops Ds.length ∧ x ∈ keys (Ds.getD i []))) ∧ ∃ LI, looseIn ops Ds.length LI = true ∧ ∀ i ∈ LI, ∃ R, md.getD i none = some R ∧ x ∉ R))
/-- A region whose order is drawn, where what is written is new, or the operation stands alone. -/
def PQ (P : Program) (E : Env) (m : Nat) (ops : Array Oper) (nb : Nat) (md : List (Option (List Nat))) (σ : Store) (K : Tm → Nat → Delta → Prop) : List Oper → Tm → Nat → List Delta → Prop
  | [], τ, n, Ds => K τ n (selD (fun i => Ds.getD i []) allB Ds.length)
  | o :: r, τ, n, Ds => dstOk m o = true ∧ ((wantA ops τ o = true ∧ ∃ v n1 d1 σj, n ≤ n1 ∧ (∀ x ∈ keys d1, WrOk ops nb md Ds n n1 x) ∧ (Sub σj (seenBy ops Ds σ) ∧ (∀ R, md.getD Ds.length none = some R → ∀ y q, σj y = some q → y ∈ R)) ∧ Step E (SC P E.den) τ o n σj v n1 d1 ∧ PQ P E m ops nb md σ K r (upd τ o.dst v) n1 (Ds ++ [d1])) ∨
      (wantA ops τ o = false ∧ PQ P E m ops nb md σ K r (upd τ o.dst undef) n (Ds ++ [[]])))
section
variable {P : Program} {E : Env} {m nb : Nat} {md : List (Option (List Nat))} {ops : Array Oper} {σ : Store} {K : Tm → Nat → Delta → Prop}
theorem seenBy_local {Ds Ds' : List Delta} {k : Nat} (hk : k = Ds.length) (h : ∀ i, i < k → Ds.getD i [] = Ds'.getD i []) : app (selD (fun i => Ds'.getD i []) (fun i => (B ops k).contains i) k) σ = seenBy ops Ds σ := by
  unfold seenBy
  rw [← hk]
  rw [selD_local fun i hi => (h i hi).symm]
theorem PQ.spec (hlt : ∀ (j : Nat) (o : Oper), ops[j]? = some o → ∀ i ∈ B ops j, i < j) : ∀ {r : List Oper} {τ : Tm} {n : Nat} {Ds : List Delta}, (∀ (i : Nat) (o : Oper), r[i]? = some o → ops[Ds.length + i]? = some o) → PQ P E m ops nb md σ K r τ n Ds → ∃ l : List (Value × Nat × Delta), l.length = r.length ∧
    (∀ (i : Nat) (o : Oper), r[i]? = some o → dstOk m o = true ∧
      (if wantA ops (tf τ r (l.map (·.1)) i) o = true then ∃ σj, (Sub σj (app (selD (fun q => (Ds ++ l.map (·.2.2)).getD q []) (fun q => (B ops (Ds.length + i)).contains q) (Ds.length + i)) σ) ∧ (∀ R, md.getD (Ds.length + i) none = some R → ∀ y q, σj y = some q → y ∈ R)) ∧ Step E (SC P E.den) (tf τ r (l.map (·.1)) i) o ((n :: l.map (·.2.1)).getD i 0) σj ((l.map (·.1)).getD i undef) ((n :: l.map (·.2.1)).getD (i + 1) 0) ((Ds ++ l.map (·.2.2)).getD (Ds.length + i) [])
        else (l.map (·.1)).getD i undef = undef ∧ (n :: l.map (·.2.1)).getD (i + 1) 0 = (n :: l.map (·.2.1)).getD i 0 ∧ (Ds ++ l.map (·.2.2)).getD (Ds.length + i) [] = []) ∧
      (n :: l.map (·.2.1)).getD i 0 ≤ (n :: l.map (·.2.1)).getD (i + 1) 0 ∧
      ∀ x ∈ keys ((Ds ++ l.map (·.2.2)).getD (Ds.length + i) []), x < (n :: l.map (·.2.1)).getD (i + 1) 0 ∧ ((n :: l.map (·.2.1)).getD i 0 ≤ x ∨ tight ops (Ds.length + i) = true ∨ ((x < nb ∨ (trans ops = true ∧ ∃ q, q ∈ B ops (Ds.length + i) ∧ q < Ds.length + i ∧ x ∈ keys ((Ds ++ l.map (·.2.2)).getD q []))) ∧ ∃ LI, looseIn ops (Ds.length + i) LI = true ∧ ∀ i ∈ LI, ∃ R, md.getD i none = some R ∧ x ∉ R))) ∧
    K (tf τ r (l.map (·.1)) r.length) ((n :: l.map (·.2.1)).getD r.length 0) (selD (fun q => (Ds ++ l.map (·.2.2)).getD q []) allB (Ds.length + r.length))
  | [], τ, n, Ds, hat, h => ⟨[], rfl, fun i o ho => by simp at ho, by
      show K τ n _
      have : (Ds ++ ([] : List (Value × Nat × Delta)).map (·.2.2)) = Ds := by simp
      rw [this]
      exact h⟩
  | o :: r, τ, n, Ds, hat, h => by
    have hat' : ∀ (X : Delta) (i : Nat) (o' : Oper), r[i]? = some o' → ops[(Ds ++ [X]).length + i]? = some o' := fun X i o' h => by
      have := hat (i + 1) o' (by simpa using h)
      rw [← this]; congr 1; simp; omega
    obtain ⟨hd, h⟩ := h
    rcases h with ⟨hw, v, n1, d1, σj, hn, hk, hs, hst, hr⟩ | ⟨hw, hr⟩
    · obtain ⟨l, h1, h2, h3⟩ := PQ.spec hlt (hat' _) hr
      have e1 : Ds ++ [d1] ++ l.map (·.2.2) = Ds ++ ((v, n1, d1) :: l).map (·.2.2) := by simp
      refine ⟨(v, n1, d1) :: l, by simp [h1], fun i o' ho => ?_, ?_⟩
      · cases i with
        | zero =>
          simp at ho; subst ho
          have e0 : tf τ (o :: r) (((v, n1, d1) :: l).map (·.1)) 0 = τ := rfl
          have hdl : (Ds ++ ((v, n1, d1) :: l).map (·.2.2)).getD (Ds.length + 0) [] = d1 := by simp [List.getD_eq_getElem?_getD]
          refine ⟨hd, ?_, hn, fun x hx => ?_⟩
          · rw [e0, if_pos hw, hdl]
            refine ⟨σj, ?_, hst⟩
            rw [Nat.add_zero, seenBy_local (Ds := Ds) rfl fun i hi => by simp only [List.getD_eq_getElem?_getD]; rw [List.getElem?_append_left hi]]
            exact hs
          · rw [hdl] at hx
            obtain ⟨w1, w2⟩ := hk x hx
            refine ⟨w1, w2.imp (fun h => h) (Or.imp (fun h => h) ?_)⟩
            rintro ⟨w3, w8⟩
            refine ⟨w3.imp (fun h => h) ?_, w8⟩
            rintro ⟨w4, q, w5, w6⟩
            have hq : q < Ds.length := hlt Ds.length o (by have := hat 0 o rfl; simpa using this) q w5
            refine ⟨w4, q, w5, by omega, ?_⟩
            simp only [List.getD_eq_getElem?_getD] at w6 ⊢
            rw [List.getElem?_append_left hq]
            exact w6
        | succ i =>
          have := h2 i o' (by simpa using ho)
          have e2 : (Ds ++ [d1]).length + i = Ds.length + (i + 1) := by simp; omega
          rw [e1, e2] at this
          exact this
      · rw [e1] at h3
        have e2 : (Ds ++ [d1]).length + r.length = Ds.length + (o :: r).length := by simp; omega
        rw [e2] at h3
        exact h3
    · obtain ⟨l, h1, h2, h3⟩ := PQ.spec hlt (hat' _) hr
      have e1 : Ds ++ [([] : Delta)] ++ l.map (·.2.2) = Ds ++ ((undef, n, ([] : Delta)) :: l).map (·.2.2) := by simp
      refine ⟨(undef, n, []) :: l, by simp [h1], fun i o' ho => ?_, ?_⟩
      · cases i with
        | zero =>
          simp at ho; subst ho
          have e0 : tf τ (o :: r) (((undef, n, ([] : Delta)) :: l).map (·.1)) 0 = τ := rfl
          have hdl : (Ds ++ ((undef, n, ([] : Delta)) :: l).map (·.2.2)).getD (Ds.length + 0) [] = [] := by simp [List.getD_eq_getElem?_getD]
          refine ⟨hd, ?_, Nat.le_refl _, fun x hx => ?_⟩
          · rw [e0, if_neg (by rw [hw]; simp), hdl]
            exact ⟨rfl, rfl, rfl⟩
          · rw [hdl] at hx; simp [keys] at hx
        | succ i =>
          have := h2 i o' (by simpa using ho)
          have e2 : (Ds ++ [([] : Delta)]).length + i = Ds.length + (i + 1) := by simp; omega
          rw [e1, e2] at this
          exact this
      · rw [e1] at h3
        have e2 : (Ds ++ [([] : Delta)]).length + r.length = Ds.length + (o :: r).length := by simp; omega
        rw [e2] at h3
        exact h3
theorem RQ.par (hE : EnvOk P E) {id : Nat} {τ : Tm} {n : Nat} {Q : Post} (hd0 : Dom n σ) (hok : parOk ops = true) (h : PQ P E m ops n md σ (fun τ' n' d => Q .normal τ' n' d) ops.toList τ n []) : RQ P E m (.region id ops true) τ n σ Q := by
  obtain ⟨l, h1, h2, h3⟩ := PQ.spec (fun j o h => B_lt hok j h) (by intro i o hi; simpa using hi) h
  have hlen : (l.map (·.1)).length = ops.size := by simp [h1]
  have hv : ∀ k, (l.map (·.1)).getD k undef = (l.getD k (undef, 0, [])).1 := fun k => by
    simp only [List.getD_eq_getElem?_getD, List.getElem?_map]
    cases l[k]? <;> rfl
  have hds : ∀ k, (([] : List Delta) ++ l.map (·.2.2)).getD k [] = (l.getD k (undef, 0, [])).2.2 := fun k => by
    simp only [List.nil_append, List.getD_eq_getElem?_getD, List.getElem?_map]
    cases l[k]? <;> rfl
  have hsel : ∀ i, i ≤ ops.size → tf τ ops.toList (l.map (·.1)) i = selT ops τ (fun k => (l.getD k (undef, 0, [])).1) allB i := fun i hi => by
    rw [tf_sel hlen i hi]
    exact selT_local fun k _ => hv k
  have hsd : ∀ (S : Nat → Bool) (k : Nat), selD (fun q => (([] : List Delta) ++ l.map (·.2.2)).getD q []) S k = selD (fun i => (l.getD i (undef, 0, [])).2.2) S k := fun S k => selD_local fun i _ => hds i
  simp only [List.length_nil, Nat.zero_add] at h2 h3
  have step : ∀ i, i < ops.size → (n :: l.map (·.2.1)).getD i 0 ≤ (n :: l.map (·.2.1)).getD (i + 1) 0 := fun i hi => (h2 i ops[i] (by simp [hi])).2.2.1
  have up : ∀ i j, i ≤ j → j ≤ ops.size → (n :: l.map (·.2.1)).getD i 0 ≤ (n :: l.map (·.2.1)).getD j 0 := by
    intro i j hij
    induction hij with
    | refl => intro _; exact Nat.le_refl _
    | @step j _ ih => intro hj; exact Nat.le_trans (ih (by omega)) (step j (by omega))
  have inI : ∀ i, ∀ x ∈ keys ((l.getD i (undef, 0, [])).2.2), i < ops.size ∧ x < (n :: l.map (·.2.1)).getD (i + 1) 0 ∧ ((n :: l.map (·.2.1)).getD i 0 ≤ x ∨ tight ops i = true ∨ ((x < n ∨ (trans ops = true ∧ ∃ q, q ∈ B ops i ∧ q < i ∧ x ∈ keys ((l.getD q (undef, 0, [])).2.2))) ∧ ∃ LI, looseIn ops i LI = true ∧ ∀ i ∈ LI, ∃ R, md.getD i none = some R ∧ x ∉ R)) := fun i x hx => by
    rcases Nat.lt_or_ge i ops.size with hi | hi
    · rw [← hds i] at hx
      obtain ⟨w1, w2⟩ := (h2 i ops[i] (by simp [hi])).2.2.2 x hx
      refine ⟨hi, w1, w2.imp (fun h => h) (Or.imp (fun h => h) ?_)⟩
      rintro ⟨w3, w8⟩
      refine ⟨w3.imp (fun h => h) ?_, w8⟩
      rintro ⟨w4, q, w5, w6, w7⟩
      exact ⟨w4, q, w5, w6, by rw [← hds q]; exact w7⟩
    · rw [List.getD_eq_getElem?_getD, List.getElem?_eq_none (by simp [h1]; omega)] at hx
      simp [keys] at hx
  have tg : ∀ t i, tight ops t = true → i < ops.size → i ≠ t → (i < t ∧ i ∈ B ops t) ∨ (t < i ∧ t ∈ B ops i ∧ ∀ k ∈ B ops t, k ∈ B ops i) := fun t i ht hi hne => by
    unfold tight at ht
    rw [List.all_eq_true] at ht
    have := ht i (List.mem_range.2 hi)
    split at this
    · rename_i hlt
      exact .inl ⟨Nat.le_of_ble_eq_true hlt, by simpa using this⟩
    · rename_i hlt
      have hlt' : ¬ i < t := fun h => hlt (Nat.ble_eq_true_of_le h)
      simp only [Bool.or_eq_true, Bool.and_eq_true, List.contains_iff_mem, List.all_eq_true] at this
      rcases this with h | ⟨h, h3⟩
      · exact absurd (Nat.eq_of_beq_eq_true h) hne
      · exact .inr ⟨by omega, h, fun k hk => h3 k hk⟩
  have inSel : ∀ (S : Nat → Bool) (k : Nat) x, x ∈ keys (selD (fun i => (l.getD i (undef, 0, [])).2.2) S k) → ∃ i, S i = true ∧ x ∈ keys ((l.getD i (undef, 0, [])).2.2) := by
    intro S k
    induction k with
    | zero => intro x hx; simp [selD, keys] at hx
    | succ k ih =>
      intro x hx
      unfold selD at hx
      split at hx
      · rename_i hS
        rw [keys_append, List.mem_append] at hx
        rcases hx with hx | hx
        · exact ⟨k, hS, hx⟩
        · exact ih x hx
      · exact ih x hx
  have hmk := Par.mk (E := E) (C := SC P E.den) (ops := ops) (m := m) (τ := τ) (n := n) (σ := σ) (fun k => (l.getD k (undef, 0, [])).1) (fun k => (n :: l.map (·.2.1)).getD k 0) (fun k => (l.getD k (undef, 0, [])).2.2) (fun k => keys ((l.getD k (undef, 0, [])).2.2)) rfl hok (fun j y hy => hy) (fun j o ho => by
    have hjs : j < ops.size := (Array.getElem?_eq_some_iff.1 ho).1
    obtain ⟨g1, g2, _⟩ := h2 j o (by simpa using ho)
    refine ⟨g1, ?_⟩
    rw [hsel j (by omega), hv j, hds j, hsd] at g2
    split at g2
    · rename_i hw
      rw [if_pos hw]
      obtain ⟨σj, k1, k2⟩ := g2
      refine k2.mono ?_
      intro x q hx0
      have hx := k1.1 x q hx0
      unfold restr
      have own : ∀ i, (n :: l.map (·.2.1)).getD i 0 ≤ x → i < ops.size → x ∈ keys ((l.getD i (undef, 0, [])).2.2) → ∀ i', x ∈ keys ((l.getD i' (undef, 0, [])).2.2) → i' = i ∨ (i ∈ B ops i' ∧ ∀ j o, ops[j]? = some o → i' ∈ B ops j → i ∈ B ops j) := by
        intro i hi his hxi i'
        induction i' using Nat.strongRecOn with
        | _ i' ih =>
          intro hx'
          obtain ⟨a1, a2, a3⟩ := inI i' x hx'
          by_cases hii : i' = i
          · exact .inl hii
          right
          have a5 := (inI i x hxi).2.1
          rcases a3 with a3 | a3 | ⟨a3 | ⟨htr, q, b1, b2, b3⟩, _⟩
          · exfalso
            rcases Nat.lt_or_gt_of_ne hii with h | h
            · have := up (i' + 1) i h (by omega); omega
            · have := up (i + 1) i' h (by omega); omega
          · rcases tg i' i a3 his (fun e => hii e.symm) with ⟨_, h⟩ | ⟨hlt, _, _⟩
            · refine ⟨h, fun j o ho hj => ?_⟩
              have hjs := (Array.getElem?_eq_some_iff.1 ho).1
              have hlt := B_lt hok j ho i' hj
              rcases tg i' j a3 hjs (by omega) with ⟨q, _⟩ | ⟨_, _, q⟩
              · omega
              · exact q i h
            · have := up (i' + 1) i hlt (by omega); omega
          · have h0 : n ≤ (n :: l.map (·.2.1)).getD i 0 := up 0 i (by omega) (by omega)
            omega
          · unfold trans at htr
            simp only [List.all_eq_true, List.mem_range, List.contains_iff_mem] at htr
            have hmem : i ∈ B ops i' := by
              rcases ih q b2 b3 with rfl | ⟨h, _⟩
              · exact b1
              · exact htr i' a1 q b1 i h
            exact ⟨hmem, fun j o ho hj => htr j (Array.getElem?_eq_some_iff.1 ho).1 i' hj i hmem⟩
      have zero : n = (n :: l.map (·.2.1)).getD 0 0 := rfl
      rw [if_neg]
      · exact hx
      · rw [List.any_eq_true]
        rintro ⟨i, _, hi⟩
        simp only [Bool.and_eq_true, List.contains_iff_mem] at hi
        obtain ⟨hl, hxi⟩ := hi
        have hl0 := hl
        simp only [loose, Bool.and_eq_true, bne_iff_ne, Bool.not_eq_true', ← Bool.not_eq_true, List.contains_iff_mem] at hl
        obtain ⟨⟨hne, hl1⟩, hl2⟩ := hl
        obtain ⟨a1, a2, a3⟩ := inI i x hxi
        have nt : tight ops i ≠ true := fun ht => by
          rcases tg i j ht hjs (fun e => hne e.symm) with ⟨_, h⟩ | ⟨_, h, _⟩
          · exact hl2 h
          · exact hl1 h
        have h0 := up 0 i (by omega) (by omega)
        rcases a3 with a4 | a3 | ⟨a3, LI, a4, a5⟩
        · by_cases hin : x ∈ keys (selD (fun i => (l.getD i (undef, 0, [])).2.2) (fun q => (B ops j).contains q) j)
          · obtain ⟨i', s1, s2⟩ := inSel _ _ x hin
            have s1' : i' ∈ B ops j := by simpa using s1
            rcases own i a4 a1 hxi i' s2 with rfl | ⟨_, h⟩
            · exact hl1 s1'
            · exact hl1 (h j o ho s1')
          · rw [app_off hin] at hx
            have : n ≤ x := by omega
            rw [hd0 x this] at hx; cases hx
        · exact nt a3
        · unfold looseIn at a4
          simp only [List.all_eq_true, List.mem_range, Bool.or_eq_true, Bool.not_eq_true', List.contains_iff_mem] at a4
          rcases a4 j hjs with h | h
          · rw [hl0] at h; cases h
          · obtain ⟨R, r1, r2⟩ := a5 j h
            exact r2 (k1.2 R r1 x q hx0)
    · rename_i hw
      rw [if_neg hw]
      exact g2)
  refine ⟨_, _, _, _, .of_run hE (.par hmk), ?_⟩
  have e := hsel ops.size (Nat.le_refl _)
  rw [hsd] at h3
  rw [show ops.toList.length = ops.size by simp, e] at h3
  exact h3
/-! Steps -/
variable {τ : Tm} {n n1 : Nat} {o : Oper} {r : List Oper} {Ds : List Delta} {v : Value} {d1 : Delta}
def NewK (n n' : Nat) (d : Delta) : Prop := n ≤ n' ∧ ∀ x ∈ keys d, n ≤ x ∧ x < n'
theorem Sub.none (σ : Store) : Sub noStore σ := fun i o h => by cases h
/-- All that was written so far is new. -/
theorem seenBy_sub {n0 : Nat} (hd0 : Dom n0 σ) (hD : ∀ d ∈ Ds, ∀ x ∈ keys d, n0 ≤ x) : Sub σ (seenBy ops Ds σ) := by
  intro i q hi
  unfold seenBy
  rw [app_off]
  · exact hi
  · intro hm
    have : ∀ (S : Nat → Bool) k, i ∈ keys (selD (fun i => Ds.getD i []) S k) → n0 ≤ i := by
      intro S k
      induction k with
      | zero => intro h; simp [selD, keys] at h
      | succ k ih =>
        intro h
        unfold selD at h
        split at h
        · rw [keys_append, List.mem_append] at h
          rcases h with h | h
          · rw [List.getD_eq_getElem?_getD] at h
            cases hk : Ds[k]? with
            | none => rw [hk] at h; simp [keys] at h
            | some d => rw [hk] at h; exact hD d (List.mem_of_getElem? hk) i h
          · exact ih h
        · exact ih h
    rw [hd0 i (this _ _ hm)] at hi; cases hi
variable {dst : Option Nat}
theorem PQ.pure (hw : wantA ops τ o = true) (hd : dstOk m o = true) (hdst : o.dst = dst) (σj : Store) (hj : Sub σj (seenBy ops Ds σ) ∧ (∀ R, md.getD Ds.length none = some R → ∀ y q, σj y = some q → y ∈ R)) (hs : (aop E τ o).run n σj = some (v, n, [])) (h : PQ P E m ops nb md σ K r (upd τ dst v) n (Ds ++ [[]])) : PQ P E m ops nb md σ K (o :: r) τ n Ds := by
  subst hdst
  exact ⟨hd, .inl ⟨hw, v, n, [], σj, Nat.le_refl _, fun x hx => by simp [keys] at hx, hj, .op hs, h⟩⟩
theorem PQ.op (hw : wantA ops τ o = true) (hd : dstOk m o = true) (hdst : o.dst = dst) (σj : Store) (hj : Sub σj (seenBy ops Ds σ) ∧ (∀ R, md.getD Ds.length none = some R → ∀ y q, σj y = some q → y ∈ R)) (hs : (aop E τ o).run n σj = some (v, n1, d1)) (hn : n ≤ n1) (hk : ∀ x ∈ keys d1, WrOk ops nb md Ds n n1 x) (h : PQ P E m ops nb md σ K r (upd τ dst v) n1 (Ds ++ [d1])) : PQ P E m ops nb md σ K (o :: r) τ n Ds := by
  subst hdst
  exact ⟨hd, .inl ⟨hw, v, n1, d1, σj, hn, hk, hj, .op hs, h⟩⟩
theorem PQ.off (hw : wantA ops τ o = false) (hd : dstOk m o = true) (hdst : o.dst = dst) (h : PQ P E m ops nb md σ K r (upd τ dst undef) n (Ds ++ [[]])) : PQ P E m ops nb md σ K (o :: r) τ n Ds := by
  subst hdst
  exact ⟨hd, .inr ⟨hw, h⟩⟩
theorem PQ.call {cl : Call} {fo : Operand} {g : Nat} {first cap : Array Value} {as all : List Value} (hw : wantA ops τ o = true) (hd : dstOk m o = true) (hdst : o.dst = dst) (ho : o.op = .call cl) (hc : cl.callee = .value fo) (hf : args1 τ fo = some (.func (.func g) first cap)) (ha : evL τ cl.args.toList = some as) (hall : first.toList ++ as ++ cap.toList = all)
    (σj : Store) (hj : Sub σj (seenBy ops Ds σ) ∧ (∀ R, md.getD Ds.length none = some R → ∀ y q, σj y = some q → y ∈ R)) (h : CQ P E.den g all n σj (fun v n1 d1 => n ≤ n1 ∧ (∀ x ∈ keys d1, WrOk ops nb md Ds n n1 x) ∧ PQ P E m ops nb md σ K r (upd τ dst v) n1 (Ds ++ [d1]))) : PQ P E m ops nb md σ K (o :: r) τ n Ds := by
  subst hdst
  obtain ⟨v, n1, d1, hs, hn, hk, h2⟩ := h
  rw [← hall] at hs
  exact ⟨hd, .inl ⟨hw, v, n1, d1, σj, hn, hk, hj, .call ho hc hf ha hs, h2⟩⟩
end
theorem seen_sub {ops : Array Oper} {Ds : List Delta} {D V : Delta} {σ : Store} (h : selD (fun i => Ds.getD i []) (fun i => (B ops Ds.length).contains i) Ds.length = V) : Sub (app (V ++ D) σ) (seenBy ops Ds (app D σ)) := by
  unfold seenBy
  rw [h, app_append]
  exact Sub.refl _
theorem wr_new {ops : Array Oper} {nb : Nat} {md : List (Option (List Nat))} {Ds : List Delta} {n n1 x : Nat} (h1 : n ≤ x) (h2 : x < n1) : WrOk ops nb md Ds n n1 x := ⟨h2, .inl h1⟩
theorem wr_tight {ops : Array Oper} {nb : Nat} {md : List (Option (List Nat))} {Ds : List Delta} {n n1 x : Nat} (h1 : tight ops Ds.length = true) (h2 : x < n1) : WrOk ops nb md Ds n n1 x := ⟨h2, .inr (.inl h1)⟩
theorem wr_old {ops : Array Oper} {nb : Nat} {md : List (Option (List Nat))} {Ds : List Delta} {n n1 x : Nat} (LI : List Nat) (h1 : looseIn ops Ds.length LI = true) (h2 : x < n1) (h3 : x < nb) (h4 : ∀ i ∈ LI, ∃ R, md.getD i none = some R ∧ x ∉ R) : WrOk ops nb md Ds n n1 x := ⟨h2, .inr (.inr ⟨.inl h3, LI, h1, h4⟩)⟩
theorem wr_late {ops : Array Oper} {nb : Nat} {md : List (Option (List Nat))} {Ds : List Delta} {n n1 x : Nat} (LI : List Nat) (h1 : looseIn ops Ds.length LI = true) (h0 : trans ops = true) (h2 : x < n1) (i : Nat) (h4 : (B ops Ds.length).contains i = true) (h5 : x ∈ keys (Ds.getD i [])) (h6 : ∀ i ∈ LI, ∃ R, md.getD i none = some R ∧ x ∉ R) : WrOk ops nb md Ds n n1 x := ⟨h2, .inr (.inr ⟨.inr ⟨h0, i, by simpa using h4, h5⟩, LI, h1, h6⟩)⟩
theorem none_ok (σ : Store) (R : List Nat) : Sub noStore σ ∧ ∀ R', some R = some R' → ∀ y q, noStore y = some q → y ∈ R' := ⟨Sub.none σ, fun _ _ y q h => by cases h⟩
theorem seen_one {ops : Array Oper} {Ds : List Delta} {D V : Delta} {σ : Store} {k : Nat} {o : AObj} (h : selD (fun i => Ds.getD i []) (fun i => (B ops Ds.length).contains i) Ds.length = V) (hk : app (V ++ D) σ k = some o) : Sub (app [(k, some o)] noStore) (seenBy ops Ds (app D σ)) ∧ ∀ R', some [k] = some R' → ∀ y q, app [(k, some o)] noStore y = some q → y ∈ R' := by
  refine ⟨fun i q hi => ?_, fun R' hR y q hy => ?_⟩
  · refine seen_sub h i q ?_
    simp only [app] at hi
    split at hi
    · rename_i e; subst e; rw [hk]; exact hi
    · cases hi
  · cases hR
    simp only [app] at hy
    split at hy
    · rename_i e; subst e; simp
    · cases hy
theorem seen_any {ops : Array Oper} {Ds : List Delta} {D V : Delta} {σ : Store} (h : selD (fun i => Ds.getD i []) (fun i => (B ops Ds.length).contains i) Ds.length = V) : Sub (app (V ++ D) σ) (seenBy ops Ds (app D σ)) ∧ ∀ R', (none : Option (List Nat)) = some R' → ∀ y q, app (V ++ D) σ y = some q → y ∈ R' := ⟨seen_sub h, fun R' h => by cases h⟩
/-- A law's call, by what it means. -/
theorem law_CQ {P : Program} {f : Nat} {args args' : List Value} {N n : Nat} {ι : Inj} {σ : Store} {W : World} (hA : At N W ι σ n W) (h : CQ P noDen f args n σ (fun v _ _ => v = .bool true)) (ha : VRs ι args args') : Calls P f ⟨args'⟩ W fun e w' => e = .returned (.bool true) ∧ Below N W w' := by
  obtain ⟨v, n', d, ⟨_, _, h2⟩, rfl⟩ := h
  refine h2 N W σ ι W args' _ (Sub.refl _) hA.rel ha (fun i hi _ => hA.fresh i hi) fun κ w' v' hend hv => ?_
  cases hv
  exact ⟨rfl, hend.2.2.below⟩
theorem At.dom {N : Nat} {w0 w : World} {ι : Inj} {σ : Store} {n : Nat} (hA : At N w0 ι σ n w) : Dom n σ := fun i hi => by
  cases h : σ i with
  | none => rfl
  | some o =>
    obtain ⟨p, hp, _⟩ := hA.rel.obj i o h
    rw [hA.fresh i hi] at hp; cases hp
end Go.Proofs.YtgajcmanompmcaaV
