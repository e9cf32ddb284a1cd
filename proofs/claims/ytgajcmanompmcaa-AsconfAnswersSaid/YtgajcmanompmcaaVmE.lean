/- The abstract machine: equality, arithmetic. -/
import Derived.Test.YtgajcmanompmcaaVmD
set_option linter.unusedVariables false
set_option linter.unusedSimpArgs false
namespace Go.Proofs.YtgajcmanompmcaaV
open Go.RowKit
section
variable {P : Program} {E : Env} (hE : EnvOk P E) (w : World) {ι : Inj}
include hE

theorem fields_run {d : Nat} (ih : ∀ (t : Nat) (x y x' y' : Value) (b : Bool), VR ι x x' → VR ι y y' → aeq E d t x y = some b → (Op.equalIn d t x' y').run P w = .ok b w) {xs ys xs' ys' : List Value} (hx : VRs ι xs xs') (hy : VRs ι ys ys') :
    ∀ (fs : List Field) (b : Bool), fieldsEq E (aeq E d) xs ys fs = some b →
    ∃ s : Option Bool × Unit, (forIn (m := Sem) fs ((none : Option Bool), ()) (fun (f : Field) (_ : Option Bool × Unit) => if f.name ≠ "_" then do
      if !(← Op.equalIn d f.type (← Go.part f.type ⟨xs'⟩ f.offset) (← Go.part f.type ⟨ys'⟩ f.offset)) then pure (ForInStep.done (some false, ())) else pure (ForInStep.yield (none, ()))
      else pure (ForInStep.yield (none, ())))).run P w = .ok s w ∧ (s.1.getD true) = b := by
  intro fs
  induction fs with
  | nil => intro b h; simp [fieldsEq] at h; subst h; exact ⟨_, rfl, rfl⟩
  | cons f fs ihf =>
    intro b h
    unfold fieldsEq at h
    rw [List.forIn_cons]
    split at h
    · rename_i hne
      split at h
      · rename_i u1 u2 h1 h2
        obtain ⟨u1', r1, v1⟩ := part_run hE w hx h1
        obtain ⟨u2', r2, v2⟩ := part_run hE w hy h2
        split at h
        · rename_i h3
          obtain ⟨s, hs, hb⟩ := ihf b h
          refine ⟨s, ?_, hb⟩
          rw [if_pos hne]
          simp only [Sem.run_bind, r1, r2, Result.andThen_ok, ih _ _ _ _ _ _ v1 v2 h3, Bool.not_true, Bool.false_eq_true, if_false, Sem.run_pure]
          exact hs
        · rename_i h3
          cases h
          refine ⟨(some false, ()), ?_, rfl⟩
          rw [if_pos hne]
          simp only [Sem.run_bind, r1, r2, Result.andThen_ok, ih _ _ _ _ _ _ v1 v2 h3, Bool.not_false, if_true, Sem.run_pure]
        · cases h
      · cases h
    · rename_i hne
      obtain ⟨s, hs, hb⟩ := ihf b h
      refine ⟨s, ?_, hb⟩
      rw [if_neg hne]
      simp only [Sem.run_bind, Result.andThen_ok, Sem.run_pure]
      exact hs

theorem elems_run {d : Nat} (ih : ∀ (t : Nat) (x y x' y' : Value) (b : Bool), VR ι x x' → VR ι y y' → aeq E d t x y = some b → (Op.equalIn d t x' y').run P w = .ok b w) {xs ys xs' ys' : List Value} (hx : VRs ι xs xs') (hy : VRs ι ys ys') (e n : Nat) :
    ∀ (m i : Nat) (b : Bool), elemsEq E (aeq E d) e n xs ys i m = some b →
    ∃ s : Option Bool × Unit, (forIn (m := Sem) (List.range' i m) ((none : Option Bool), ()) (fun i (_ : Option Bool × Unit) => do
      if !(← Op.equalIn d e (← Go.part e ⟨xs'⟩ (i * n)) (← Go.part e ⟨ys'⟩ (i * n))) then pure (ForInStep.done (some false, ())) else pure (ForInStep.yield (none, ())))).run P w = .ok s w ∧ (s.1.getD true) = b := by
  intro m
  induction m with
  | zero => intro i b h; simp [elemsEq] at h; subst h; exact ⟨_, rfl, rfl⟩
  | succ m ihf =>
    intro i b h
    unfold elemsEq at h
    rw [List.range'_succ, List.forIn_cons]
    split at h
    · rename_i u1 u2 h1 h2
      obtain ⟨u1', r1, v1⟩ := part_run hE w hx h1
      obtain ⟨u2', r2, v2⟩ := part_run hE w hy h2
      split at h
      · rename_i h3
        obtain ⟨s, hs, hb⟩ := ihf (i + 1) b h
        refine ⟨s, ?_, hb⟩
        simp only [Sem.run_bind, r1, r2, Result.andThen_ok, ih _ _ _ _ _ _ v1 v2 h3, Bool.not_true, Bool.false_eq_true, if_false, Sem.run_pure]
        exact hs
      · rename_i h3
        cases h
        refine ⟨(some false, ()), ?_, rfl⟩
        simp only [if_true, Sem.run_bind, r1, r2, Result.andThen_ok, ih _ _ _ _ _ _ v1 v2 h3, Bool.not_false, Sem.run_pure]
      · cases h
    · cases h

theorem aeq_run (hD : DenOk E.den ι) : ∀ (d t : Nat) (x y x' y' : Value) (b : Bool), VR ι x x' → VR ι y y' → aeq E d t x y = some b → (Op.equalIn d t x' y').run P w = .ok b w := by
  intro d
  induction d with
  | zero => intro t x y x' y' b _ _ h; simp [aeq] at h
  | succ d ih =>
    intro t x y x' y' b hx hy h
    unfold aeq at h
    split at h
    · cases h
    · rename_i i hi
      have hu := und_run hE w hi
      unfold Op.equalIn
      simp only [Sem.run_bind, hu, Result.andThen_ok]
      split at h
      all_goals (rename_i hd)
      · cases hx with
        | sym g1 g2 =>
        split at h
        · rename_i b' hb
          cases h
          obtain ⟨k, n, m, d1, d2, d3⟩ := hE.eqb _ _ _ hb
          have e1 := d1.same hD (.sym g1 g2)
          have e2 := d2.same hD hy
          cases e1
          subst e2
          simp only [hd]
          rw [if_pos trivial, d3]
          rfl
        · cases h
        | symS g1 g2 =>
        split at h
        · rename_i b' hb
          cases h
          obtain ⟨k, n, m, d1, d2, d3⟩ := hE.eqb _ _ _ hb
          have e1 := d1.same hD (.symS g1 g2)
          cases e1
        · cases h
      · cases hx
        cases hy with
        | sym g1 g2 =>
        split at h
        · rename_i b' hb
          cases h
          obtain ⟨k, n, m, d1, d2, d3⟩ := hE.eqb _ _ _ hb
          have e1 := d1.same hD (.int _ _)
          have e2 := d2.same hD (.sym g1 g2)
          cases e1
          cases e2
          simp only [hd]
          rw [if_pos trivial, d3]
          rfl
        · cases h
        | symS g1 g2 =>
        split at h
        · rename_i b' hb
          cases h
          obtain ⟨k, n, m, d1, d2, d3⟩ := hE.eqb _ _ _ hb
          have e2 := d2.same hD (.symS g1 g2)
          cases e2
        · cases h
      · cases hx; cases hy; cases h; simp only [hd]; rfl
      · cases hx; cases hy
        split at h
        · cases h; rename_i hk; simp only [hd, hk, if_true]; rfl
        · cases h
      · cases hx; cases hy; cases h; simp only [hd]; rfl
      · cases hx; cases hy <;> cases h <;> (simp only [hd]; rfl)
      · cases hx; cases hy; cases h; simp only [hd]; rfl
      · cases hx; cases hy; cases h; simp only [hd]; rfl
      · cases hx; cases hy; cases h; simp only [hd]; rfl
      · cases hx; cases hy; cases h; simp only [hd]; rfl
      · rename_i fields xs ys
        split at h
        · rename_i hok
          cases hx with | @agg l l' hx =>
          cases hy with | @agg m m' hy =>
          obtain ⟨s, hs, hb⟩ := fields_run hE w ih hx hy _ _ h
          simp only [hd, Sem.run_bind, run_program, Result.andThen_ok, (hE.eqok _ _ hi hok).2, Bool.false_eq_true, if_false]
          rw [← Array.forIn_toList, hs]
          simp only [Result.andThen_ok]
          subst hb
          rcases s with ⟨_ | s, _⟩ <;> rfl
        · cases h
      · rename_i n e xs ys
        split at h
        · rename_i j hj
          cases hx with | @agg l l' hx =>
          cases hy with | @agg m m' hy =>
          obtain ⟨s, hs, hb⟩ := elems_run hE w ih hx hy e j.size _ _ _ h
          simp only [hd, Sem.run_bind, size_run hE w hj, Result.andThen_ok]
          rw [Std.Legacy.Range.forIn_eq_forIn_range']
          simp only [Std.Legacy.Range.size, Nat.sub_zero, Nat.add_sub_cancel, Nat.div_one]
          rw [hs]
          simp only [Result.andThen_ok]
          subst hb
          rcases s with ⟨_ | s, _⟩ <;> rfl
        · cases h
      · cases hx; cases hy; cases h; simp only [hd]; rfl
      · split at h
        · rename_i hc
          cases hx; cases hy <;> first | (exfalso; revert hc; decide) | (cases h; simp only [hd]; rfl)
        · cases h
      · split at h
        · rename_i hc
          cases hy; cases hx <;> first | (exfalso; revert hc; decide) | (cases h; simp only [hd]; rfl)
        · cases h
      · cases hx; cases hy <;> cases h <;> (simp only [hd]; rfl)
      · cases hx; cases hy; cases h; simp only [hd]; rfl
      · cases hx; cases hy; cases h; simp only [hd]; rfl
      · cases hx; cases hy; cases h; simp only [hd]; rfl
      · cases h

theorem guard_run {op : BinOp} {t : Nat} {x y : Operand} {u v u' v' : Value} (hu : VR ι u u') (hv : VR ι v v') (h : guardOk E op t x y u v = true) : (eqGuard op t x y u' v').run P w = .ok () w := by
  unfold eqGuard
  unfold guardOk at h
  cases op <;> first | rfl | skip
  all_goals
    simp only at h
    simp only [Sem.run_bind, Sem.run_pure, Result.andThen_ok, Bool.not_true, Bool.false_eq_true, if_false]
    split at h
    · cases hu; cases hv
      cases x <;> cases y <;> first | rfl | (simp at h; done)
    · cases hu; cases hv
      split at h
      · rename_i i hi
        simp only [Sem.run_bind, run_program, Result.andThen_ok, (hE.eqok _ _ hi h).1, Bool.not_false, if_true]
        rfl
      · cases h
    · rename_i h1 h2
      cases hu <;> cases hv <;> first | rfl | exact (h1 rfl rfl).elim | exact (h2 _ _ rfl rfl).elim
end

theorem shift_leaf {op : BinOp} {k yk : IntKind} {x y : Int} {v : Value} (h : Op.shift op k x yk y = .pure v) : cl0 v = true := by
  unfold Op.shift at h
  split at h
  · simp only [runtimePanic] at h; cases h
  · cases op <;> first | (cases pure_inj h; rfl) | cases h
theorem arith_leaf {op : BinOp} {k : IntKind} {x y : Int} {v : Value} (h : Op.intArith op k x y = .pure v) : cl0 v = true := by
  unfold Op.intArith at h
  split at h <;> first | (cases pure_inj h; rfl) | cases h
theorem div_leaf {op : BinOp} {k : IntKind} {x y : Int} {v : Value} (h : Op.intDiv op k x y = .pure v) : cl0 v = true := by
  unfold Op.intDiv at h
  split at h
  · simp only [runtimePanic] at h; cases h
  · cases op <;> first | (cases pure_inj h; rfl) | cases h
theorem bits_leaf {op : BinOp} {k : IntKind} {x y : Int} {v : Value} (h : Op.intBits op k x y = .pure v) : cl0 v = true := by
  unfold Op.intBits at h
  cases op <;> first | (cases pure_inj h; rfl) | cases h
theorem cmp_leaf {op : BinOp} {x y : Int} {v : Value} (h : Op.intCmp op x y = .pure v) : cl0 v = true := by
  unfold Op.intCmp at h
  cases op <;> first | (cases pure_inj h; rfl) | cases h
theorem string_leaf {op : BinOp} {x y : ByteArray} {v : Value} (h : Op.stringOp op x y = .pure v) : cl0 v = true := by
  unfold Op.stringOp at h
  cases op <;> simp only at h <;> first | (cases pure_inj h; rfl) | cases h | (split at h <;> first | (cases pure_inj h; rfl) | cases h)

section
variable {P : Program} {E : Env} {τ : Nat → Value} {a : Act} {ι : Inj} {σ : Store} {N n n' : Nat} {w0 w : World} {v : Value} {d : Delta}

theorem abin_run (hE : EnvOk P E) (hD : DenOk E.den ι) {op : BinOp} {t : Nat} {x y x' y' : Value} (hx : VR ι x x') (hy : VR ι y y') (h : (abin E op t x y).run n σ = some (v, n', d)) :
    d = [] ∧ n' = n ∧ ∃ v', (binOp op t x' y').run P w = .ok v' w ∧ VR ι v v' := by
  have leaf : ∀ {S : Sem Value}, (ofSem S).run n σ = some (v, n', d) → (∀ u, S = .pure u → cl0 u = true) → (binOp op t x' y' = S) → d = [] ∧ n' = n ∧ ∃ v', (binOp op t x' y').run P w = .ok v' w ∧ VR ι v v' := by
    intro S h1 h2 h3
    obtain ⟨hp, rfl, rfl⟩ := sem_pure_run h1
    exact ⟨rfl, rfl, v, by rw [h3, hp]; rfl, cl0_VR (h2 v hp) ι⟩
  unfold abin at h
  split at h
  · unfold orFail at h
    split at h
    · rename_i z hz
      obtain ⟨rfl, rfl, rfl⟩ := ret_run h
      obtain ⟨a', b', v', d1, d2, d3, d4⟩ := hE.bin _ _ _ _ hz
      have e1 := d1.same hD hx
      have e2 := d2.same hD hy
      subst e1
      subst e2
      exact ⟨rfl, rfl, v', by rw [d4]; rfl, d3.VR hD⟩
    · exact (fail_run h).elim
  rename_i hcode
  simp only [Bool.or_eq_true, not_or, Bool.not_eq_true] at hcode
  obtain ⟨hc1, hc2⟩ := hcode
  unfold abin0 at h
  split at h
  · cases hx; cases hy
    exact leaf h (fun _ => shift_leaf) rfl
  · cases hx; cases hy
    exact leaf h (fun _ => shift_leaf) rfl
  · rename_i h1 h2
    cases hx; cases hy
    split at h
    · exact (fail_run h).elim
    · rename_i hk
      have hk' := Decidable.not_not.1 hk
      subst hk'
      cases op <;> first
        | exact (h1 rfl).elim
        | exact (h2 rfl).elim
        | exact leaf h (fun _ => arith_leaf) (by simp [binOp])
        | exact leaf h (fun _ => div_leaf) (by simp [binOp])
        | exact leaf h (fun _ => bits_leaf) (by simp [binOp])
        | exact leaf h (fun _ => cmp_leaf) (by simp [binOp])
  · cases hx; cases hy
    exact leaf h (fun _ => string_leaf) (by cases op <;> rfl)
  · rename_i h1 h2
    split at h
    · rename_i b hb
      obtain ⟨rfl, rfl, rfl⟩ := ret_run h
      refine ⟨rfl, rfl, .bool b, ?_, .bool b⟩
      have hr := aeq_run hE w hD _ _ _ _ _ _ _ hx hy hb
      cases hx <;> cases hy <;> first
        | (simp [coded] at hc1; done)
        | (simp [coded] at hc2; done)
        | exact (h1 _ _ _ _ rfl rfl).elim
        | exact (h2 _ _ rfl rfl).elim
        | (simp only [binOp, Sem.run_bind, Op.equal, hr, Result.andThen_ok, Sem.run_pure])
        | (simp [binOp, Op.equal, hr])
    · exact (fail_run h).elim
  · rename_i h1 h2
    split at h
    · rename_i b hb
      obtain ⟨rfl, rfl, rfl⟩ := ret_run h
      refine ⟨rfl, rfl, .bool !b, ?_, .bool _⟩
      have hr := aeq_run hE w hD _ _ _ _ _ _ _ hx hy hb
      cases hx <;> cases hy <;> first
        | (simp [coded] at hc1; done)
        | (simp [coded] at hc2; done)
        | exact (h1 _ _ _ _ rfl rfl).elim
        | exact (h2 _ _ rfl rfl).elim
        | (simp only [binOp, Sem.run_bind, Op.equal, hr, Result.andThen_ok, Sem.run_pure])
        | (simp [binOp, Op.equal, hr])
    · exact (fail_run h).elim
  · exact (fail_run h).elim

theorem op_binOp (hE : EnvOk P E) (hR : Rel E.den N w0 ι σ w) (hτ : TR ι τ a) {op : BinOp} {t : Nat} {x y : Operand} (h : (ev τ x fun u => ev τ y fun z => if guardOk E op t x y u z then abin E op t u z else .fail).run n σ = some (v, n', d)) :
    Good E.den N w0 ι σ n n' v d ((do pure (Next.value (← (do eqGuard op t x y (a.eval x) (a.eval y); binOp op t (a.eval x) (a.eval y)))) : Sem Next).run P w) := by
  obtain ⟨u, hu, h⟩ := ev_run hτ h
  obtain ⟨z, hz, h⟩ := ev_run hτ h
  split at h
  · rename_i hg
    obtain ⟨rfl, rfl, v', h1, h2⟩ := abin_run hE (w := w) hR.den hu hz h
    refine good_of hR h2 ?_
    simp only [Sem.run_bind, guard_run hE w hu hz hg, Result.andThen_ok, h1]
  · exact (fail_run h).elim
end
end Go.Proofs.YtgajcmanompmcaaV
