/- The abstract machine: what an operation reads and writes; code, calls, regions. -/
import Derived.Test.YtgajcmanompmcaaVmL
set_option linter.unusedVariables false
set_option linter.unusedSimpArgs false
namespace Go.Proofs.YtgajcmanompmcaaV
open Go.RowKit

def Sub (σ τ : Store) : Prop := ∀ i o, σ i = some o → τ i = some o
theorem Sub.refl (σ : Store) : Sub σ σ := fun _ _ h => h
theorem Sub.app {σ τ : Store} (h : Sub σ τ) (d : Delta) : Sub (app d σ) (app d τ) := by
  induction d with
  | nil => exact h
  | cons x d ih =>
    obtain ⟨k, o⟩ := x
    intro i q e
    simp only [Go.Proofs.YtgajcmanompmcaaV.app] at e ⊢
    split at e
    · rw [if_pos ‹_›]; exact e
    · rw [if_neg ‹_›]; exact ih i q e
theorem T.mono {σ τ : Store} (hs : Sub σ τ) : ∀ {t : T} {n : Nat} {r : Value × Nat × Delta}, t.run n σ = some r → t.run n τ = some r := by
  intro t
  induction t with
  | fail => intro n r h; cases h
  | ret v d => intro n r h; exact h
  | get i k ih =>
    intro n r h
    obtain ⟨o, ho, h⟩ := get_run h
    simp only [T.run, hs i o ho]
    exact ih o h
  | fresh k ih => intro n r h; exact ih n h

inductive T.Wf : (Nat → Prop) → T → Prop
  | fail {S} : Wf S .fail
  | ret {S v d} (h : ∀ i ∈ keys d, S i) : Wf S (.ret v d)
  | get {S i k} (h : ∀ o, Wf (fun j => S j ∨ j = i) (k o)) : Wf S (.get i k)
  | fresh {S k} (h : ∀ n, Wf (fun j => S j ∨ j = n) (k n)) : Wf S (.fresh k)
theorem T.Wf.keys {t : T} {S : Nat → Prop} (hw : T.Wf S t) : ∀ {n n' : Nat} {σ : Store} {v : Value} {d : Delta}, t.run n σ = some (v, n', d) → n ≤ n' ∧ ∀ i ∈ Go.Proofs.YtgajcmanompmcaaV.keys d, S i ∨ (σ i).isSome = true ∨ (n ≤ i ∧ i < n') := by
  induction hw with
  | fail => intro n n' σ v d h; cases h
  | ret h => intro n n' σ v d hr; obtain ⟨rfl, rfl, rfl⟩ := ret_run hr; exact ⟨Nat.le_refl _, fun i hi => .inl (h i hi)⟩
  | @get S i k h ih =>
    intro n n' σ v d hr
    obtain ⟨o, ho, hr⟩ := get_run hr
    obtain ⟨h1, h2⟩ := ih o hr
    refine ⟨h1, fun j hj => ?_⟩
    rcases h2 j hj with (h | rfl) | h
    · exact .inl h
    · exact .inr (.inl (by rw [ho]; rfl))
    · exact .inr h
  | @fresh S k h ih =>
    intro n n' σ v d hr
    obtain ⟨h1, h2⟩ := ih n (fresh_run hr)
    refine ⟨by omega, fun j hj => ?_⟩
    rcases h2 j hj with (h | rfl) | h | h
    · exact .inl h
    · exact .inr (.inr ⟨Nat.le_refl _, by omega⟩)
    · exact .inr (.inl h)
    · exact .inr (.inr ⟨by omega, h.2⟩)

theorem wf_ev {S : Nat → Prop} {τ : Nat → Value} {x : Operand} {k : Value → T} (h : ∀ v, T.Wf S (k v)) : T.Wf S (ev τ x k) := by
  unfold ev; split
  · exact h _
  · exact .fail
theorem wf_evO {S : Nat → Prop} {τ : Nat → Value} {x : Option Operand} {k : Option Value → T} (h : ∀ v, T.Wf S (k v)) : T.Wf S (evO τ x k) := by
  unfold evO; split
  · exact h _
  · exact wf_ev fun v => h _
theorem wf_ret {S : Nat → Prop} {v : Value} : T.Wf S (.ret v []) := .ret (by intro i h; simp [keys] at h)
theorem wf_ofSem {S : Nat → Prop} {s : Sem Value} : T.Wf S (ofSem s) := by
  unfold ofSem; split
  · exact wf_ret
  · exact .fail
theorem wf_orFail {S : Nat → Prop} {s : Option Value} : T.Wf S (orFail s) := by
  unfold orFail; split
  · exact wf_ret
  · exact .fail
theorem wf_seen {S : Nat → Prop} {size : Nat} {v : Value} {k : List (List Value) → T} (h : ∀ (S' : Nat → Prop), (∀ i, S i → S' i) → ∀ xs, T.Wf S' (k xs)) : T.Wf S (seen size v k) := by
  unfold seen
  split
  · exact h S (fun _ h => h) _
  · split
    · exact h S (fun _ h => h) _
    · refine .get fun o => ?_
      split
      · exact h _ (fun _ h => .inl h) _
      · exact .fail
  · split
    · exact h S (fun _ h => h) _
    · exact .fail
  · exact .fail
theorem wf_newRow {S : Nat → Prop} {es : List (List Value)} {size t : Nat} {d : Delta} (h : ∀ i ∈ keys d, S i) : T.Wf S (newRowT es size t d) := by
  refine .fresh fun n => .ret fun i hi => ?_
  simp [keys] at hi
  rcases hi with rfl | hi
  · exact .inr rfl
  · exact .inl (h i (by simpa [keys] using hi))
theorem wf_newRow2 {S : Nat → Prop} {es : List (List Value)} {size t : Nat} {d : Delta} (h : ∀ i ∈ keys d, S i) : T.Wf S (newRow2T es size t d) := by
  refine .fresh fun n => .ret fun i hi => ?_
  simp [keys] at hi
  rcases hi with rfl | hi
  · exact .inr rfl
  · exact .inl (h i (by simpa [keys] using hi))
theorem wf_append23 {S : Nat → Prop} {elem j o len c : Nat} {i : TI} {xs : List (List Value)} : T.Wf S (aappend23 elem i j o len c xs) := by
  unfold aappend23
  split
  · split
    · exact wf_newRow2 (by intro i h; simp [keys] at h)
    · exact .fail
  · split
    · refine .get fun o => ?_
      split
      · exact wf_newRow2 (by intro i h; simp [keys] at h; exact .inr h)
      · exact .fail
    · exact .fail
theorem wf_append {S : Nat → Prop} {elem : Nat} {i : TI} {s : Value} {xs : List (List Value)} : T.Wf S (aappend elem i s xs) := by
  unfold aappend
  split
  · split
    · exact wf_ret
    · split
      · exact wf_newRow (by intro i h; simp [keys] at h)
      · exact .fail
  · split
    · exact wf_append23
    split
    · exact wf_ret
    · refine .get fun o => ?_
      split
      · exact .fail
      · split
        · exact wf_newRow (by intro i h; simp [keys] at h)
        · split
          · exact .fail
          · split
            · exact .ret (by intro i h; simp [keys] at h; exact .inr h)
            · exact wf_newRow (by intro i h; simp [keys] at h; exact .inr h)
  · exact .fail
theorem wf_copy {S : Nat → Prop} {size : Nat} {dst : Value} {n : Nat} {xs : List (List Value)} : T.Wf S (acopy size dst n xs) := by
  unfold acopy
  split
  · exact wf_ret
  · split
    · exact wf_ret
    · refine .get fun o => ?_
      split
      · exact .fail
      · exact .ret (by intro i h; simp [keys] at h; exact .inr h)
  · exact .fail
theorem wf_clear {S : Nat → Prop} {i : TI} {dst : Value} : T.Wf S (aclear i dst) := by
  unfold aclear
  split
  · exact wf_ret
  · exact wf_ret
  · split
    · exact wf_ret
    · refine .get fun o => ?_
      split
      · exact .fail
      · exact .ret (by intro i h; simp [keys] at h; exact .inr h)
  · exact .fail
theorem wf_str {S : Nat → Prop} {v : Value} : T.Wf S (astr v) := by
  unfold astr
  split
  · exact wf_ret
  · split
    · exact wf_ret
    · refine .get fun o => ?_
      split
      · split
        · exact wf_ret
        · exact .fail
      · exact .fail
  · exact .fail
theorem wf_slice23 {S : Nat → Prop} {ei : TI} {i o len c l h : Nat} {hi mx : Option Value} : T.Wf S (aslice23 ei i o len c l h hi mx) := by
  unfold aslice23
  repeat' first | exact wf_ret | exact .fail | (refine .get fun o => ?_) | split
theorem wf_slice {S : Nat → Prop} {E : Env} {t : Nat} {x : Value} {lo hi mx : Option Value} : T.Wf S (aslice E t x lo hi mx) := by
  unfold aslice
  repeat' first | exact wf_ret | exact .fail | exact wf_slice23 | (refine .get fun o => ?_) | split
theorem wf_slice2 {S : Nat → Prop} {E : Env} {t : Nat} {x : Value} {lo hi mx : Option Value} : T.Wf S (aslice2 E t x lo hi mx) := by
  unfold aslice2
  split
  · refine .fresh fun _ => ?_
    exact wf_ret
  · exact wf_slice
theorem wf_bin {S : Nat → Prop} {E : Env} {op : BinOp} {t : Nat} {x y : Value} : T.Wf S (abin E op t x y) := by
  unfold abin
  split
  · exact wf_orFail
  unfold abin0
  repeat' first | exact wf_ret | exact .fail | exact wf_ofSem | split
theorem wf_builtin {S : Nat → Prop} {E : Env} {b : Builtin} {ats : List Nat} {args : List Value} : T.Wf S (abuiltin E b ats args) := by
  unfold abuiltin
  repeat' first | exact wf_ret | exact .fail | exact wf_orFail | exact wf_clear | exact wf_append | exact wf_seen (fun _ _ _ => wf_append) | exact wf_seen (fun _ _ _ => wf_copy) | split
theorem wf_aop0 {S : Nat → Prop} (E : Env) (τ : Nat → Value) (o : Oper) : T.Wf S (aop0 E τ o) := by
  unfold aop0
  split
  all_goals repeat' first
    | exact wf_ret
    | exact .fail
    | exact wf_orFail
    | exact wf_ofSem
    | exact wf_bin
    | exact wf_slice2
    | exact wf_str
    | exact wf_builtin
    | exact wf_newRow (by intro i h; simp [keys] at h)
    | (refine wf_ev fun _ => ?_)
    | (refine wf_evO fun _ => ?_)
    | (refine .get fun _ => ?_)
    | (refine .fresh fun _ => ?_)
    | (refine .ret ?_; intro i h; simp [keys] at h; exact .inr h)
    | (dsimp only; split)
    | split
theorem wf_aop {S : Nat → Prop} (E : Env) (τ : Nat → Value) (o : Oper) : T.Wf S (aop E τ o) := by
  unfold aop
  split
  · exact wf_ret
  · exact wf_aop0 E τ o
end Go.Proofs.YtgajcmanompmcaaV
