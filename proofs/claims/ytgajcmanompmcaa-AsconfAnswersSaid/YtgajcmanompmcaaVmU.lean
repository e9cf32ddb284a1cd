/- The abstract machine: a call that is run once and remembered. -/
import Derived.Test.YtgajcmanompmcaaVmT
set_option linter.unusedVariables false
set_option linter.unusedSimpArgs false
namespace Go.Proofs.YtgajcmanompmcaaV
open Go Go.RowKit
def xbody (E : Env) (F : Nat) (X : XC) : XC := fun f args n σ => match E.fn f with
    | some fn => match fn.body with
      | some c => if args.length ≤ fn.ntmps then match xrun E X fn.ntmps F c (init args) n σ with
          | some (.exit _, _, _, _) => none
          | some (_, τ', n', d) => match resL E τ' (app d σ) fn.results.toList with
            | some vs => some (one vs, n', d)
            | none => none
          | none => none
        else none
      | none => none
    | none => none
theorem xbody_sound {E : Env} {F k : Nat} {X : XC} (hX : ∀ f args n σ v n' d, X f args n σ = some (v, n', d) → CallK E k f args n σ v n' d) {f : Nat} {args : List Value} {n n' : Nat} {σ : Store} {v : Value} {d : Delta} (h : xbody E F X f args n σ = some (v, n', d)) : CallK E (k + 1) f args n σ v n' d := by
  unfold xbody at h
  split at h
  · rename_i fn hf
    split at h
    · rename_i c hc
      split at h
      · rename_i hl
        split at h
        · cases h
        · rename_i x τ' n2 d2 hne hr
          split at h
          · rename_i vs hvs
            cases h
            refine ⟨fn, c, x, τ', _, vs, hf, hc, hl, xrun_sound hX hr, ?_, hvs, rfl, Less.refl _ _ _⟩
            cases x with
            | normal => exact .inl rfl
            | ret => exact .inr rfl
            | exit i => exact absurd rfl (hne i)
          · cases h
        · cases h
      · cases h
    · cases h
  · cases h
theorem CallK.drop {E : Env} : ∀ {k f : Nat} {args : List Value} {n n' : Nat} {σ : Store} {v : Value} {d : Delta}, CallK E k f args n σ v n' d → (∀ i ∈ keys d, n ≤ i ∧ i < n') → CallK E k f args n σ v n' []
  | 0, _, _, _, _, _, _, _, h, _ => h
  | k + 1, _, _, _, _, _, _, _, ⟨fn, c, x, τ', d0, vs, h1, h2, h3, h4, h5, h6, h7, h8⟩, hd =>
    ⟨fn, c, x, τ', d0, vs, h1, h2, h3, h4, h5, h6, h7, ⟨fun x hx => by simp [keys] at hx, fun x hx => (h8.gone x hx).elim (fun h => .inr (hd x h)) .inr⟩⟩
/-- A call without arguments that is remembered: the function, where its numbers begin, what it returns, where they end. -/
structure Memo where
  f : Nat
  n0 : Nat
  v : Value
  n1 : Nat
def kept (n : Nat) (r : Value × Nat × Delta) : Value × Nat × Bool := (r.1, r.2.1, (keys r.2.2).all fun i => Nat.ble n i && Nat.blt i r.2.1)
def MemoOk (E : Env) (F k : Nat) (m : Memo) : Prop := ∀ σ, (xcall E F k m.f [] m.n0 σ).map (kept m.n0) = some (m.v, m.n1, true)
def memoX (X : XC) : List Memo → XC
  | [] => X
  | m :: r => fun f args n σ => if (Nat.beq f m.f && args.isEmpty && Nat.beq n m.n0) = true then some (m.v, m.n1, []) else memoX X r f args n σ
theorem memoX_sound {E : Env} {F k : Nat} : ∀ {l : List Memo}, allP (MemoOk E F k) l → ∀ f args n σ v n' d, memoX (xcall E F k) l f args n σ = some (v, n', d) → CallK E k f args n σ v n' d
  | [], _, f, args, n, σ, v, n', d, h => xcall_sound k h
  | m :: r, ⟨h0, hr⟩, f, args, n, σ, v, n', d, h => by
    unfold memoX at h
    split at h
    · rename_i hk
      simp only [Bool.and_eq_true, List.isEmpty_iff] at hk
      obtain ⟨⟨h1, rfl⟩, h2⟩ := hk
      cases Nat.eq_of_beq_eq_true h1
      cases Nat.eq_of_beq_eq_true h2
      cases h
      have h3 := h0 σ
      cases hx : xcall E F k m.f [] m.n0 σ with
      | none => rw [hx] at h3; cases h3
      | some z =>
        obtain ⟨v', n', d⟩ := z
        rw [hx] at h3
        simp only [Option.map_some, kept, Option.some.injEq, Prod.mk.injEq] at h3
        obtain ⟨rfl, h5, h6⟩ := h3
        rw [← h5]
        refine (xcall_sound k hx).drop fun i hi => ?_
        rw [List.all_eq_true] at h6
        have := h6 i hi
        simp only [Bool.and_eq_true] at this
        exact ⟨Nat.le_of_ble_eq_true this.1, Nat.lt_of_lt_of_le (Nat.lt_succ_self i) (Nat.le_of_ble_eq_true this.2)⟩
    · exact memoX_sound hr f args n σ v n' d h
theorem gives_memo {E : Env} {F k f : Nat} {args : List Value} {σ : Store} (l : List Memo) (hl : allP (MemoOk E F k) l) (h : yes (xbody E F (memoX (xcall E F k) l) f args 0 σ) = true) : Gives E f args σ (.bool true) := by
  unfold yes at h
  split at h
  · rename_i n' d hx
    exact ⟨k + 1, n', d, xbody_sound (memoX_sound hl) hx, Nat.le_of_ble_eq_true h⟩
  · cases h
end Go.Proofs.YtgajcmanompmcaaV
