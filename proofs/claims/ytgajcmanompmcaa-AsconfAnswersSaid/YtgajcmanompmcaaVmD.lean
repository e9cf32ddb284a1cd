/- The abstract machine: operations without memory. -/
import Derived.Test.YtgajcmanompmcaaVmC
set_option linter.unusedVariables false
set_option linter.unusedSimpArgs false
namespace Go.Proofs.YtgajcmanompmcaaV
open Go.RowKit
section
variable {P : Program} {E : Env} {τ : Nat → Value} {a : Act} {ι : Inj} {σ : Store} {N n n' : Nat} {w0 w : World} {v : Value} {d : Delta}

theorem good_of {S : Sem Value} {v' : Value} (hR : Rel E.den N w0 ι σ w) (hv : VR ι v v') (hS : S.run P w = .ok v' w) : Good E.den N w0 ι σ n n v [] ((do pure (Next.value (← S)) : Sem Next).run P w) := by
  simp only [Sem.run_bind, hS, Result.andThen_ok, Sem.run_pure]
  exact good_value hR hv

theorem op_move (hR : Rel E.den N w0 ι σ w) (hτ : TR ι τ a) {x : Operand} (h : (ev τ x fun v => .ret v []).run n σ = some (v, n', d)) :
    Good E.den N w0 ι σ n n' v d ((pure (.value (a.eval x)) : Sem Next).run P w) := by
  obtain ⟨u, hu, h⟩ := ev_run hτ h
  obtain ⟨rfl, rfl, rfl⟩ := ret_run h
  exact good_value hR hu

theorem op_pick (hR : Rel E.den N w0 ι σ w) (hτ : TR ι τ a) {c x y : Operand} (h : (ev τ c fun
    | .bool true => ev τ x fun v => ev τ y fun _ => .ret v []
    | .bool false => ev τ y fun v => ev τ x fun _ => .ret v []
    | _ => .fail).run n σ = some (v, n', d)) :
    Good E.den N w0 ι σ n n' v d ((do pure (.value (if ← asBool (a.eval c) then a.eval x else a.eval y)) : Sem Next).run P w) := by
  obtain ⟨u, hu, h⟩ := ev_run hτ h
  split at h
  · generalize hc : a.eval c = c' at hu
    cases hu
    obtain ⟨u1, hu1, h⟩ := ev_run hτ h
    obtain ⟨u2, hu2, h⟩ := ev_run hτ h
    obtain ⟨rfl, rfl, rfl⟩ := ret_run h
    simp only [asBool, Sem.run_bind, Sem.run_pure, Result.andThen_ok, if_true]
    exact good_value hR hu1
  · generalize hc : a.eval c = c' at hu
    cases hu
    obtain ⟨u1, hu1, h⟩ := ev_run hτ h
    obtain ⟨u2, hu2, h⟩ := ev_run hτ h
    obtain ⟨rfl, rfl, rfl⟩ := ret_run h
    simp only [asBool, Sem.run_bind, Sem.run_pure, Result.andThen_ok, if_false, Bool.false_eq_true]
    exact good_value hR hu1
  · exact (fail_run h).elim

theorem op_nilCheck (hR : Rel E.den N w0 ι σ w) (hτ : TR ι τ a) {x : Operand} {o : Oper} (ho : o.op = .nilCheck x) (h : (ev τ x fun
    | .pointer (some a) => .ret (.pointer (some a)) []
    | .func (.func f) a b => .ret (.func (.func f) a b) []
    | _ => .fail).run n σ = some (v, n', d)) : Good E.den N w0 ι σ n n' v d ((execOp a.eval o).run P w) := by
  obtain ⟨u, hu, h⟩ := ev_run hτ h
  unfold execOp
  rw [ho]
  simp only
  generalize a.eval x = x' at hu
  split at h
  · obtain ⟨rfl, rfl, rfl⟩ := ret_run h
    cases hu with
    | ptr hp => simp only [Sem.run_pure]; exact good_value hR (.ptr hp)
  · obtain ⟨rfl, rfl, rfl⟩ := ret_run h
    cases hu with
    | func ha hb => simp only [Sem.run_pure]; exact good_value hR (.func ha hb)
  · exact (fail_run h).elim

theorem pure_inj {α : Type} {x y : α} (h : (Sem.pure x : Sem α) = .pure y) : x = y := by injection h
theorem unary_int {op : UnOp} {k : IntKind} {m : Int} {v : Value} (h : Op.unary op (.int k m) = .pure v) : cl0 v = true := by
  cases op <;> simp only [Op.unary, Op.intArith, Op.intBits] at h <;> first | (cases pure_inj h; rfl) | cases h
theorem unary_bool {op : UnOp} {b : Bool} {v : Value} (h : Op.unary op (.bool b) = .pure v) : cl0 v = true := by
  cases op <;> simp only [Op.unary] at h <;> first | (cases pure_inj h; rfl) | cases h
theorem op_unOp (hE : EnvOk P E) (hR : Rel E.den N w0 ι σ w) (hτ : TR ι τ a) {op : UnOp} {x : Operand} (h : (ev τ x fun
    | .int k n => ofSem (Op.unary op (.int k n))
    | .bool b => ofSem (Op.unary op (.bool b))
    | .chan (some c) => orFail (E.un op (.chan (some c)))
    | _ => .fail).run n σ = some (v, n', d)) : Good E.den N w0 ι σ n n' v d ((do pure (Next.value (← Op.unary op (a.eval x))) : Sem Next).run P w) := by
  obtain ⟨u, hu, h⟩ := ev_run hτ h
  generalize a.eval x = x' at hu
  split at h
  · obtain ⟨hp, rfl, rfl⟩ := sem_pure_run h
    cases hu
    rw [hp]
    exact good_of hR (cl0_VR (unary_int hp) ι) rfl
  · obtain ⟨hp, rfl, rfl⟩ := sem_pure_run h
    cases hu
    rw [hp]
    exact good_of hR (cl0_VR (unary_bool hp) ι) rfl
  · unfold orFail at h
    split at h
    · rename_i z hz
      obtain ⟨rfl, rfl, rfl⟩ := ret_run h
      obtain ⟨x1, v1, d1, d2, d3⟩ := hE.un _ _ _ hz
      have e1 := d1.same hR.den hu
      subst e1
      rw [d3]
      exact good_of hR (d2.VR hR.den) rfl
    · exact (fail_run h).elim
  · exact (fail_run h).elim

theorem op_extract (hR : Rel E.den N w0 ι σ w) (hτ : TR ι τ a) {x : Operand} {k : Nat} (h : (ev τ x fun
    | .tuple vs => orFail vs.toList[k]?
    | _ => .fail).run n σ = some (v, n', d)) : Good E.den N w0 ι σ n n' v d ((do pure (Next.value (← Instr.extract (a.eval x) k)) : Sem Next).run P w) := by
  obtain ⟨u, hu, h⟩ := ev_run hτ h
  generalize a.eval x = x' at hu
  split at h
  · rename_i vs
    unfold orFail at h
    split at h
    · rename_i z hz
      obtain ⟨rfl, rfl, rfl⟩ := ret_run h
      cases hu with
      | @tuple l l' hs =>
        obtain ⟨v', h1, h2⟩ := hs.get k _ hz
        refine good_of hR h2 ?_
        unfold Instr.extract
        have e : (Array.mk l' : Array Value)[k]? = some v' := by simpa using h1
        simp only [e, Sem.run_pure]
    · exact (fail_run h).elim
  · exact (fail_run h).elim

theorem op_makeInterface (hE : EnvOk P E) (hR : Rel E.den N w0 ι σ w) (hτ : TR ι τ a) {t : Nat} {x : Operand} (h : (ev τ x fun v => match E.ty t with
    | some i => match i.d with
      | .interface _ => .fail
      | _ => .ret (.iface t v) []
    | none => .fail).run n σ = some (v, n', d)) : Good E.den N w0 ι σ n n' v d ((do pure (Next.value (← Instr.makeInterface t (a.eval x))) : Sem Next).run P w) := by
  obtain ⟨u, hu, h⟩ := ev_run hτ h
  split at h
  · rename_i i hi
    split at h
    · exact (fail_run h).elim
    · rename_i hne
      obtain ⟨rfl, rfl, rfl⟩ := ret_run h
      refine good_of hR (.iface hu) ?_
      unfold Instr.makeInterface
      simp only [Sem.run_bind, und_run hE w hi, Result.andThen_ok]
      rfl
  · exact (fail_run h).elim

theorem op_makeFunc (hR : Rel E.den N w0 ι σ w) (hτ : TR ι τ a) {fn : Fn} {x y : Array Operand} (h : (match evL τ x.toList, evL τ y.toList with
    | some a, some b => T.ret (.func fn ⟨a⟩ ⟨b⟩) []
    | _, _ => .fail).run n σ = some (v, n', d)) : Good E.den N w0 ι σ n n' v d ((do pure (Next.value (← Instr.makeFunc fn (x.map a.eval) (y.map a.eval))) : Sem Next).run P w) := by
  split at h
  · rename_i xs ys hx hy
    obtain ⟨rfl, rfl, rfl⟩ := ret_run h
    refine good_of hR (v' := .func fn (x.map a.eval) (y.map a.eval)) ?_ rfl
    have e1 : x.map a.eval = Array.mk (x.toList.map a.eval) := by apply Array.ext'; simp
    have e2 : y.map a.eval = Array.mk (y.toList.map a.eval) := by apply Array.ext'; simp
    rw [e1, e2]
    exact .func (evL_sound hτ hx) (evL_sound hτ hy)
  · exact (fail_run h).elim

theorem op_field (hE : EnvOk P E) (hR : Rel E.den N w0 ι σ w) (hτ : TR ι τ a) {t f : Nat} {x : Operand} (h : (ev τ x fun
    | .agg cs => match E.ty t with
      | some i => match i.d with
        | .struct fields => match fields[f]? with
          | some fd => orFail (part E fd.type cs.toList fd.offset)
          | none => .fail
        | _ => .fail
      | none => .fail
    | _ => .fail).run n σ = some (v, n', d)) : Good E.den N w0 ι σ n n' v d ((do pure (Next.value (← Instr.field t (a.eval x) f)) : Sem Next).run P w) := by
  obtain ⟨u, hu, h⟩ := ev_run hτ h
  generalize a.eval x = x' at hu
  split at h
  · split at h
    · rename_i i hi
      split at h
      · rename_i fields hd
        split at h
        · rename_i fd hfd
          unfold orFail at h
          split at h
          · rename_i z hz
            obtain ⟨rfl, rfl, rfl⟩ := ret_run h
            cases hu with
            | agg hs =>
              obtain ⟨v', h1, h2⟩ := part_run hE w hs hz
              refine good_of hR h2 ?_
              unfold Instr.field
              simp only [Sem.run_bind, und_run hE w hi, Result.andThen_ok, hd, hfd, asAgg, Sem.run_pure, h1]
          · exact (fail_run h).elim
        · exact (fail_run h).elim
      · exact (fail_run h).elim
    · exact (fail_run h).elim
  · exact (fail_run h).elim

theorem fieldPlace_run (hE : EnvOk P E) {f : Field} {i : TI} (hi : E.ty f.type = some i) (h0 : i.size ≠ 0) (b o : Nat) : (fieldPlace ⟨b, o, none⟩ f).run P w = .ok ⟨b, o + f.offset, none⟩ w := by
  unfold fieldPlace
  simp only [Sem.run_bind, size_run hE w hi, Result.andThen_ok, h0, if_false, Sem.run_pure, addr_add]

theorem op_fieldAddr (hE : EnvOk P E) (hR : Rel E.den N w0 ι σ w) (hτ : TR ι τ a) {s f : Nat} {x : Operand} (h : (ev τ x fun
    | .pointer (some ⟨i, k, some j⟩) => match E.ty s with
      | some si => match si.d with
        | .struct fields => match fields[f]? with
          | some fd => match E.ty fd.type with
            | some fi => if fi.size = 0 then .fail else .ret (.pointer (some ⟨i, k, some (j + fd.offset)⟩)) []
            | none => .fail
          | none => .fail
        | _ => .fail
      | none => .fail
    | _ => .fail).run n σ = some (v, n', d)) : Good E.den N w0 ι σ n n' v d ((do pure (Next.value (← Instr.fieldAt s (a.eval x) f)) : Sem Next).run P w) := by
  obtain ⟨u, hu, h⟩ := ev_run hτ h
  generalize a.eval x = x' at hu
  split at h
  · rename_i i k j
    split at h
    · rename_i si hs
      split at h
      · rename_i fields hd
        split at h
        · rename_i fd hfd
          split at h
          · rename_i fi hfi
            split at h
            · exact (fail_run h).elim
            · rename_i h0
              obtain ⟨rfl, rfl, rfl⟩ := ret_run h
              cases hu with
              | ptr hp =>
                refine good_of hR (.ptr hp) ?_
                unfold Instr.fieldAt
                simp only [Sem.run_bind, und_run hE w hs, Result.andThen_ok, hd, hfd, Instr.sureAddr, Sem.run_pure, fieldPlace_run hE hfi h0, Nat.add_assoc]
          · exact (fail_run h).elim
        · exact (fail_run h).elim
      · exact (fail_run h).elim
    · exact (fail_run h).elim
  · exact (fail_run h).elim

theorem op_typeAssert (hE : EnvOk P E) (hR : Rel E.den N w0 ι σ w) (hτ : TR ι τ a) {x : Operand} {xt asserted : Nat} {ok : Bool} (h : (ev τ x fun
    | .iface t v => match E.ty asserted with
      | some i => match i.d with
        | .interface _ => .fail
        | _ => if t = asserted then .ret (if ok then .tuple #[v, .bool true] else v) [] else if ok then .ret (.tuple #[i.zero, .bool false]) [] else .fail
      | none => .fail
    | .nilIface => match E.ty asserted with
      | some i => if ok then .ret (.tuple #[i.zero, .bool false]) [] else .fail
      | none => .fail
    | _ => .fail).run n σ = some (v, n', d)) : Good E.den N w0 ι σ n n' v d ((do pure (Next.value (← Instr.typeAssert (a.eval x) xt asserted ok)) : Sem Next).run P w) := by
  obtain ⟨u, hu, h⟩ := ev_run hτ h
  generalize a.eval x = x' at hu
  split at h
  · rename_i t y
    split at h
    · rename_i i hi
      have hz := (hE.zero _ _ hi).1 ι
      split at h
      · exact (fail_run h).elim
      · rename_i hne
        cases hu with
        | iface hy =>
          split at h
          · rename_i ht
            obtain ⟨rfl, rfl, rfl⟩ := ret_run h
            subst ht
            cases ok
            · refine good_of hR (by simpa using hy) ?_
              unfold Instr.typeAssert
              simp [und_run hE w hi]
            · refine good_of hR (v' := .tuple #[_, .bool true]) (.tuple (.cons hy (.cons (.bool _) .nil))) ?_
              unfold Instr.typeAssert
              simp [und_run hE w hi]
          · rename_i ht
            split at h
            · rename_i hok
              obtain ⟨rfl, rfl, rfl⟩ := ret_run h
              refine good_of hR (v' := .tuple #[i.zero, .bool false]) (.tuple (.cons hz (.cons (.bool _) .nil))) ?_
              unfold Instr.typeAssert
              simp [und_run hE w hi, ht, hok, zero_run hE w hi]
            · exact (fail_run h).elim
    · exact (fail_run h).elim
  · split at h
    · rename_i i hi
      have hz := (hE.zero _ _ hi).1 ι
      split at h
      · rename_i hok
        obtain ⟨rfl, rfl, rfl⟩ := ret_run h
        cases hu
        refine good_of hR (v' := .tuple #[i.zero, .bool false]) (.tuple (.cons hz (.cons (.bool _) .nil))) ?_
        unfold Instr.typeAssert
        simp only [Sem.run_bind, und_run hE w hi, Result.andThen_ok]
        cases i.d <;> simp [hok, zero_run hE w hi]
      · exact (fail_run h).elim
    · exact (fail_run h).elim
  · exact (fail_run h).elim
end
end Go.Proofs.YtgajcmanompmcaaV
