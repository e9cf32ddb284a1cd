/- The abstract machine: calls, run with slices.Insert told by its contract. -/
import Derived.Test.YtmepflkodjdgdaaVm6
set_option linter.unusedVariables false
set_option linter.unusedSimpArgs false
namespace Go.Proofs.YtmepflkodjdgdaaV
open Go Go.RowKit
/-- A call of slices.Insert of one element, not at the end: of which function, the element's type, its cells. -/
def insOk (elem sz : Nat) (args : List Value) (n : Nat) (σ : Store) : Option (Value × Nat × Delta) :=
  match args with
  | [.slice (some ⟨j, off, none⟩) N c, .int .i64 i, .slice (some ⟨m, 0, none⟩) 1 c'] => match σ j, σ m with
    | some oj, some om => match om.es with
      | [x] => if (Nat.beq c 0 || Nat.beq c 2) && decide (0 ≤ i) && Nat.blt i.toNat N && Nat.ble N 1000000 && Nat.ble (off + N) oj.es.length && Nat.beq oj.sz sz && Nat.beq oj.t elem && oj.w && Nat.beq om.sz sz && om.w && Nat.beq x.length sz && oj.es.all (fun e => Nat.beq e.length sz) && !(Nat.beq m j) then
          some (.slice (some ⟨n, 0, none⟩) (N + 1) 0, n + 1, [(n, some ⟨((oj.es.drop off).take N).take i.toNat ++ [x] ++ ((oj.es.drop off).take N).drop i.toNat, sz, elem, true⟩), (j, none)])
        else none
      | _ => none
    | _, _ => none
  | _ => none
structure Ins where
  f : Nat
  elem : Nat
  sz : Nat
def InsSC (P : Program) (I : Ins) : Prop := ∀ {n j m off N i c' t' : Nat} {es : List (List Value)} {x : List Value} {σ : Store}, (∀ e ∈ es, e.length = I.sz) → x.length = I.sz → σ j = some ⟨es, I.sz, I.elem, true⟩ → σ m = some ⟨[x], I.sz, t', true⟩ → m ≠ j → off + N ≤ es.length → i < N → N ≤ 1000000 →
  SC P noDen I.f [.slice (some ⟨j, off, none⟩) N 2, .int .i64 ((i : Nat) : Int), .slice (some ⟨m, 0, none⟩) 1 c'] n σ (.slice (some ⟨n, 0, none⟩) (N + 1) 2) (n + 1) [(n, some ⟨((es.drop off).take N).take i ++ [x] ++ ((es.drop off).take N).drop i, I.sz, I.elem, true⟩), (j, none)]
theorem insOk_sound {P : Program} {I : Ins} (hI : InsSC P I) {args : List Value} {n n' : Nat} {σ : Store} {v : Value} {d : Delta} (h : insOk I.elem I.sz args n σ = some (v, n', d)) : SC P noDen I.f args n σ v n' d := by
  unfold insOk at h
  split at h
  · rename_i j off N c i m c'
    split at h
    · rename_i oj om hj hm
      split at h
      · rename_i x hx
        split at h
        · rename_i hc
          simp only [Bool.and_eq_true, Bool.or_eq_true, decide_eq_true_eq, Bool.not_eq_true', List.all_eq_true] at hc
          obtain ⟨⟨⟨⟨⟨⟨⟨⟨⟨⟨⟨⟨h1, h2⟩, h3⟩, h4⟩, h5⟩, h6⟩, h7⟩, h8⟩, h9⟩, h10⟩, h11⟩, h12⟩, h13⟩ := hc
          obtain ⟨es, sz, t, w⟩ := oj
          obtain ⟨es2, sz2, t2, w2⟩ := om
          simp only at h6 h7 h8 h9 h10 h12 hx h5
          cases Nat.eq_of_beq_eq_true h6
          cases Nat.eq_of_beq_eq_true h7
          cases Nat.eq_of_beq_eq_true h9
          subst h8 h10 hx
          have e5 := Nat.le_of_ble_eq_true h5
          have e4 := Nat.le_of_ble_eq_true h4
          have e3 : i.toNat < N := Nat.le_of_ble_eq_true h3
          have ei : i = ((i.toNat : Nat) : Int) := by omega
          cases h
          rw [ei]
          have := hI (n := n) (c' := c') (fun e he => Nat.eq_of_beq_eq_true (h12 e he)) (Nat.eq_of_beq_eq_true h11) hj hm (fun e => by rw [e] at h13; simp at h13) e5 e3 e4
          simp only [Int.toNat_natCast]
          refine (this.val (vle_has (by omega))).less_args ?_
          rcases h1 with h1 | h1
          · cases Nat.eq_of_beq_eq_true h1
            exact VLes.cons (vle_row _ _ _) (VLes.refl _)
          · cases Nat.eq_of_beq_eq_true h1
            exact VLes.refl _
        · cases h
      · cases h
    · cases h
  · cases h
def isEnd : List Value → Bool
  | [.slice _ N _, .int .i64 i, _] => decide (i = (N : Int))
  | _ => true
def xins (L : List Ins) (X : XC) : XC := match L with
  | [] => X
  | I :: r => fun f args n σ => if Nat.beq f I.f && !(isEnd args) then insOk I.elem I.sz args n σ else xins r X f args n σ
def xcall2 (E : Env) (L : List Ins) (F : Nat) : Nat → XC
  | 0 => fun _ _ _ _ => none
  | k + 1 => xins L (xbody E F (xcall2 E L F k))
theorem xins_sound {P : Program} {X : XC} (hX : ∀ f args n σ v n' d, X f args n σ = some (v, n', d) → SC P noDen f args n σ v n' d) : ∀ {L : List Ins}, allP (InsSC P) L → ∀ f args n σ v n' d, xins L X f args n σ = some (v, n', d) → SC P noDen f args n σ v n' d
  | [], _, f, args, n, σ, v, n', d, h => hX _ _ _ _ _ _ _ h
  | I :: r, ⟨h0, hr⟩, f, args, n, σ, v, n', d, h => by
    unfold xins at h
    split at h
    · rename_i hk
      simp only [Bool.and_eq_true] at hk
      cases Nat.eq_of_beq_eq_true hk.1
      exact insOk_sound h0 h
    · exact xins_sound hX hr _ _ _ _ _ _ _ h
theorem xbody_SC {P : Program} {E : Env} (hE : EnvOk P E) {F : Nat} {X : XC} (hX : ∀ f args n σ v n' d, X f args n σ = some (v, n', d) → SC P E.den f args n σ v n' d) {f : Nat} {args : List Value} {n n' : Nat} {σ : Store} {v : Value} {d : Delta} (h : xbody E F X f args n σ = some (v, n', d)) : SC P E.den f args n σ v n' d := by
  unfold xbody at h
  split at h
  · rename_i fn hf
    split at h
    · rename_i c hc
      split at h
      · rename_i hl
        split at h
        · cases h
        · rename_i x τ' n2 d2 hne hr
          split at h
          · rename_i vs hvs
            cases h
            refine SC.of_body hE hf hc hl (CR.of_run hE (xrun_sound hX hr)) ?_ hvs (Less.refl _ _ _)
            cases x with
            | normal => exact .inl rfl
            | ret => exact .inr rfl
            | exit i => exact absurd rfl (hne i)
          · cases h
        · cases h
      · cases h
    · cases h
  · cases h
theorem xcall2_sound {P : Program} {E : Env} (hE : EnvOk P E) (hden : E.den = noDen) {L : List Ins} (hL : allP (InsSC P) L) {F : Nat} : ∀ (k : Nat) f args n σ v n' d, xcall2 E L F k f args n σ = some (v, n', d) → SC P noDen f args n σ v n' d
  | 0, _, _, _, _, _, _, _, h => by cases h
  | k + 1, f, args, n, σ, v, n', d, h => by
    refine xins_sound (fun f args n σ v n' d h => ?_) hL _ _ _ _ _ _ _ h
    rw [← hden]
    exact xbody_SC hE (fun f args n σ v n' d h => by rw [hden]; exact xcall2_sound hE hden hL k _ _ _ _ _ _ _ h) h
theorem PS.closed2 {P : Program} {E : Env} (hE : EnvOk P E) (hd : E.den = noDen) {L : List Ins} (hL : allP (InsSC P) L) {F k f : Nat} {args : List Value} {v : Value} {σ : Store} (h : (xcall2 E L F k f args 0 noStore).map (·.1) = some v) (ha : args.all flat = true) (hv : flat v = true) : PS P noDen f args σ v := by
  intro n _
  cases hx : xcall2 E L F k f args 0 noStore with
  | none => rw [hx] at h; cases h
  | some r =>
    obtain ⟨v', n', d⟩ := r
    rw [hx] at h
    simp at h
    subst h
    exact ⟨n, Nat.le_refl _, SC.anywhere (xcall2_sound hE hd hL k _ _ _ _ _ _ _ hx) ha hv n σ⟩
end Go.Proofs.YtmepflkodjdgdaaV
