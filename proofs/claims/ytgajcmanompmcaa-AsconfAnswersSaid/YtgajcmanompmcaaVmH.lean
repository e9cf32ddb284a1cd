/- The abstract machine: literals. -/
import Derived.Test.YtgajcmanompmcaaVmG
set_option linter.unusedVariables false
set_option linter.unusedSimpArgs false
namespace Go.Proofs.YtgajcmanompmcaaV
open Go.RowKit
theorem fold_ov (off : Nat) : ∀ (l : List Value) (k : Nat) (cells : Array Value), off + k + l.length ≤ cells.size →
    ((l.zipIdx k).foldl (fun (cs : Array Value) (x : Value × Nat) => cs.setIfInBounds (off + x.2) x.1) cells).toList = ov cells.toList (off + k) l
  | [], k, cells, _ => by simp [ov]
  | v :: l, k, cells, h => by
    have ih := fold_ov off l (k + 1) (cells.setIfInBounds (off + k) v) (by simp at h ⊢; omega)
    simp only [List.zipIdx_cons, List.foldl_cons]
    rw [ih]
    have e := list_seg_step cells.toList (off + k) v l (by simp at h ⊢; omega)
    simpa [ov, Array.toList_setIfInBounds, Nat.add_assoc] using e
theorem fold_arr (off : Nat) (v : Array Value) (cells : Array Value) (h : off + v.size ≤ cells.size) :
    v.zipIdx.foldl (fun (cs : Array Value) (x : Value × Nat) => cs.setIfInBounds (off + x.2) x.1) cells = ⟨ov cells.toList off v.toList⟩ := by
  apply Array.ext'
  rw [← Array.foldl_toList]
  simp only [Array.toList_zipIdx]
  exact fold_ov off v.toList 0 cells (by simpa using h)
theorem VRs.ov {ι : Inj} {e e' c c' : List Value} {j : Nat} (he : VRs ι e e') (hc : VRs ι c c') : VRs ι (Go.Proofs.YtgajcmanompmcaaV.ov e j c) (Go.Proofs.YtgajcmanompmcaaV.ov e' j c') := by
  unfold Go.Proofs.YtgajcmanompmcaaV.ov
  rw [hc.length]
  exact ((he.take j).append hc).append (he.drop _)
theorem VR.csize {ι : Inj} {v v' : Value} (h : VR ι v v') : v'.cells.size = v.cells.size := by
  have := h.cells.length
  simpa using this.symm

theorem fill_run {ι : Inj} {place place' : Nat → Option (Nat × Nat)} (hp : ∀ i q, place i = some q → place' i = some q) : ∀ {ps ps' : List (Nat × Value)}, PR ι ps ps' → ∀ {cs cs' r : List Value}, VRs ι cs cs' → afill place cs ps = some r → ∃ r', Instr.fill place' ⟨cs'⟩ ps' = some ⟨r'⟩ ∧ VRs ι r r' := by
  intro ps ps' h
  induction h with
  | nil => intro cs cs' r hcs hf; simp [afill] at hf; subst hf; exact ⟨cs', rfl, hcs⟩
  | @cons i v v' l l' hv hs ih =>
    intro cs cs' r hcs hf
    unfold afill at hf
    split at hf
    · cases hf
    · rename_i off size hpl
      split at hf
      · cases hf
      · rename_i hc
        simp only [Bool.or_eq_true, decide_eq_true_eq, not_or, Decidable.not_not, Nat.not_lt] at hc
        obtain ⟨h1, h2⟩ := hc
        have h1' : v.cells.size = size := by simpa using h1
        have hcl := hcs.length
        unfold Instr.fill
        rw [hp i _ hpl]
        simp only
        rw [if_neg (by rw [hv.csize]; simp [h1']; omega)]
        rw [fold_arr off v'.cells ⟨cs'⟩ (by rw [hv.csize, h1']; show _ ≤ cs'.length; omega)]
        exact ih (hcs.ov hv.cells) hf

/-- Elements put in place, one after the other. -/
theorem parts_run {ι : Inj} {size : Nat} : ∀ {ps ps' : List (Nat × Value)}, PR ι ps ps' → ∀ {es r : List (List Value)} {cs' : List Value}, Holds ι size es cs' 0 → (∀ (k : Nat) (e : List Value), es[k]? = some e → e.length = size) → es.length * size ≤ cs'.length → aparts size es ps = some r →
    ∃ r', Instr.fill (fun i => some (i * size, size)) ⟨cs'⟩ ps' = some ⟨r'⟩ ∧ Holds ι size r r' 0 ∧ (∀ (k : Nat) (e : List Value), r[k]? = some e → e.length = size) ∧ r.length = es.length ∧ r'.length = cs'.length := by
  intro ps ps' h
  induction h with
  | nil => intro es r cs' hh hl hroom hf; simp [aparts] at hf; subst hf; exact ⟨cs', rfl, hh, hl, rfl, rfl⟩
  | @cons i v v' l l' hv hs ih =>
    intro es r cs' hh hl hroom hf
    unfold aparts at hf
    split at hf
    · cases hf
    · rename_i hc
      simp only [Bool.or_eq_true, decide_eq_true_eq, not_or, Decidable.not_not, Nat.not_lt, Bool.not_eq_true, Bool.not_eq_false', Bool.not_eq_true'] at hc
      obtain ⟨⟨h1, h2⟩, h3⟩ := hc
      have h1' : v.cells.size = size := by simpa using h1
      have h2' : i < es.length := by omega
      have hcl : (cellsL v).length = size := by unfold cellsL; simpa using h1'
      have hi1 : (i + 1) * size ≤ es.length * size := Nat.mul_le_mul_right _ (by omega)
      rw [Nat.add_mul] at hi1
      unfold Instr.fill
      simp only
      rw [if_neg (by rw [hv.csize]; simp [h1']; omega)]
      rw [fold_arr (i * size) v'.cells ⟨cs'⟩ (by rw [hv.csize, h1']; show _ ≤ cs'.length; omega)]
      have he := List.getElem?_eq_getElem h2'
      have hset : ov es[i] 0 (cellsL v) = cellsL v := by
        unfold ov
        have := hl i _ he
        simp [hcl, this]
      have hh2 := hh.set (c := cellsL v) (c' := v'.cells.toList) (j := 0) he hl (by omega) hv.cells (by simpa using h3) (by omega)
      rw [hset] at hh2
      simp only [Nat.zero_add, Nat.add_zero] at hh2
      have hlen' : (ov cs' (i * size) v'.cells.toList).length = cs'.length := ov_length (by have := hv.cells.length; simp [hv.csize, h1']; omega)
      obtain ⟨r', g1, g2, g3, g4, g5⟩ := ih hh2 (fun k e hk => by
        by_cases hki : k = i
        · subst hki; rw [List.getElem?_set_self h2'] at hk; cases hk; exact hcl
        · rw [List.getElem?_set_ne (fun e => hki e.symm)] at hk; exact hl k e hk) (by simp; omega) hf
      exact ⟨r', g1, g2, g3, by simpa using g4, g5.trans hlen'⟩

section
variable {P : Program} {E : Env} {τ : Nat → Value} {a : Act} {ι : Inj} {σ : Store} {N n n' : Nat} {w0 w : World} {v : Value} {d : Delta}

theorem places_run (hE : EnvOk P E) (fields : Array Field) (h : fields.all (fun f => (E.ty f.type).isSome) = true) : ∃ pl : Array (Nat × Nat), (fields.mapM fun f => (do pure (f.offset, ← sizeOf f.type) : Sem (Nat × Nat))).run P w = .ok pl w ∧
    ∀ (k : Nat) (q : Nat × Nat), ((fields[k]?).bind fun (f : Field) => (E.ty f.type).map fun (fi : TI) => (f.offset, fi.size)) = some q → pl[k]? = some q := by
  have key : ∀ (l : List Field), (∀ f ∈ l, (E.ty f.type).isSome = true) → ∃ pl : List (Nat × Nat), (l.mapM fun f => (do pure (f.offset, ← sizeOf f.type) : Sem (Nat × Nat))).run P w = .ok pl w ∧
      ∀ (k : Nat) (q : Nat × Nat), ((l[k]?).bind fun (f : Field) => (E.ty f.type).map fun (fi : TI) => (f.offset, fi.size)) = some q → pl[k]? = some q := by
    intro l
    induction l with
    | nil => intro _; exact ⟨[], rfl, fun k q hq => by simp at hq⟩
    | cons f l ih =>
      intro hl
      obtain ⟨pl, h1, h2⟩ := ih fun g hg => hl g (List.mem_cons_of_mem _ hg)
      obtain ⟨fi, hfi⟩ := Option.isSome_iff_exists.1 (hl f (by simp))
      refine ⟨(f.offset, fi.size) :: pl, ?_, fun k q hq => ?_⟩
      · simp only [List.mapM_cons, Sem.run_bind, size_run hE w hfi, Result.andThen_ok, Sem.run_pure, h1]
      · cases k with
        | zero => simp [hfi] at hq; simpa using hq
        | succ k => simp at hq ⊢; exact h2 k q (by simpa using hq)
  obtain ⟨pl, h1, h2⟩ := key fields.toList (fun f hf => by
    rw [Array.all_eq_true_iff_forall_mem] at h
    exact h f (by simpa using hf))
  refine ⟨⟨pl⟩, ?_, fun k q hq => by simpa using h2 k q (by simpa using hq)⟩
  rw [Array.mapM_eq_mapM_toList]
  simp only [Sem.run_map, h1, Result.andThen_ok]

theorem PR_map {a : Act} (l : List (Nat × Operand)) (ps : Array (Nat × Operand)) (h : ps.toList = l) : (ps.map fun (x : Nat × Operand) => (x.1, a.eval x.2)).toList = l.map fun (i, x) => (i, a.eval x) := by
  subst h; simp

theorem op_build (hE : EnvOk P E) (hR : Rel E.den N w0 ι σ w) (hτ : TR ι τ a) {t : Nat} {parts : Array (Nat × Operand)} (h : (match evP τ parts.toList, E.ty t with
    | some ps, some i => match i.d with
      | .struct fields => match afill (fun k => (fields[k]?).bind fun (f : Field) => (E.ty f.type).map fun (fi : TI) => (f.offset, fi.size)) (cellsL i.zero) ps with
        | some cs => if fields.all (fun f => (E.ty f.type).isSome) then T.ret (.agg ⟨cs⟩) [] else .fail
        | none => .fail
      | .array _ elem => match E.ty elem with
        | some ei => match afill (fun k => some (k * ei.size, ei.size)) (cellsL i.zero) ps with
          | some cs => .ret (.agg ⟨cs⟩) []
          | none => .fail
        | none => .fail
      | _ => .fail
    | _, _ => .fail).run n σ = some (v, n', d)) :
    Good E.den N w0 ι σ n n' v d ((do pure (Next.value (← Instr.build t (parts.map fun (i, x) => (i, a.eval x)))) : Sem Next).run P w) := by
  split at h
  · rename_i ps i hps hi
    have hP := evP_sound hτ hps
    have hz := ((hE.zero _ _ hi).1 ι).cells
    have hml : (parts.map fun (x : Nat × Operand) => (x.1, a.eval x.2)).toList = parts.toList.map fun (i, x) => (i, a.eval x) := PR_map _ _ rfl
    split at h
    · rename_i fields hd
      split at h
      · rename_i cs hcs
        split at h
        · rename_i hall
          obtain ⟨rfl, rfl, rfl⟩ := ret_run h
          obtain ⟨pl, h1, h2⟩ := places_run (w := w) hE fields hall
          obtain ⟨r', g1, g2⟩ := fill_run (place' := fun k => pl[k]?) (fun k q hq => h2 k q hq) hP hz hcs
          refine good_of hR (.agg g2) ?_
          unfold Instr.build
          simp only [Sem.run_bind, zero_run hE w hi, und_run hE w hi, hd, Result.andThen_ok, h1, Sem.run_pure]
          have g1' : Instr.fill (fun x => pl[x]?) i.zero.cells (parts.map fun (x : Nat × Operand) => (x.1, a.eval x.2)).toList = some ⟨r'⟩ := by rw [hml]; exact g1
          rw [g1']
          rfl
        · exact (fail_run h).elim
      · exact (fail_run h).elim
    · rename_i len elem hd
      split at h
      · rename_i ei hei
        split at h
        · rename_i cs hcs
          obtain ⟨rfl, rfl, rfl⟩ := ret_run h
          obtain ⟨r', g1, g2⟩ := fill_run (place' := fun k => some (k * ei.size, ei.size)) (fun k q hq => hq) hP hz hcs
          refine good_of hR (.agg g2) ?_
          unfold Instr.build
          simp only [Sem.run_bind, zero_run hE w hi, und_run hE w hi, hd, Result.andThen_ok, size_run hE w hei, Sem.run_pure]
          have g1' : Instr.fill (fun k => some (k * ei.size, ei.size)) i.zero.cells (parts.map fun (x : Nat × Operand) => (x.1, a.eval x.2)).toList = some ⟨r'⟩ := by rw [hml]; exact g1
          rw [g1']
          rfl
        · exact (fail_run h).elim
      · exact (fail_run h).elim
    · exact (fail_run h).elim
  · exact (fail_run h).elim

theorem op_buildSlice (hE : EnvOk P E) (hR : Rel E.den N w0 ι σ w) (hτ : TR ι τ a) (hn : ∀ i, n ≤ i → i < n' → ι i = none) {t len : Nat} {parts : Array (Nat × Operand)} (h : (match evP τ parts.toList, E.ty t with
    | some ps, some i => match i.d with
      | .slice elem => match E.ty elem with
        | some ei => if decide (len * ei.size ≤ 65536) && decide (0 < ei.size) && (cellsL ei.zero).length = ei.size then
            match aparts ei.size (List.replicate len (cellsL ei.zero)) ps with
            | some es => newRowT es ei.size elem []
            | none => .fail
          else .fail
        | none => .fail
      | _ => .fail
    | _, _ => .fail).run n σ = some (v, n', d)) :
    Good E.den N w0 ι σ n n' v d ((do pure (Next.value (← Instr.buildSlice t len (parts.map fun (i, x) => (i, a.eval x)))) : Sem Next).run P w) := by
  split at h
  · rename_i ps i hps hi
    have hP := evP_sound hτ hps
    have hml : (parts.map fun (x : Nat × Operand) => (x.1, a.eval x.2)).toList = parts.toList.map fun (i, x) => (i, a.eval x) := PR_map _ _ rfl
    split at h
    · rename_i elem hd
      split at h
      · rename_i ei hei
        split at h
        · rename_i hc
          simp only [Bool.and_eq_true, decide_eq_true_eq] at hc
          obtain ⟨⟨hsm, hpos⟩, hzl⟩ := hc
          split at h
          · rename_i es hes
            obtain ⟨rfl, rfl, rfl⟩ := ret_run (fresh_run h)
            obtain ⟨r', g1, g2, g3, g4, g5⟩ := parts_run hP (es := List.replicate len (cellsL ei.zero)) (cs' := ((Array.range (len * ei.size)).map (ei.zero.cells[· % ei.zero.cells.size]!)).toList) (holds_zeros hE hei hpos len (len * ei.size) (Nat.le_refl _)) (fun k e he => by rw [List.getElem?_replicate] at he; split at he <;> cases he; exact hzl) (by simp) hes
            have g4' : es.length = len := by simpa using g4
            have g5' : r'.length = len * ei.size := by simpa using g5
            have hmk : (Instr.buildSlice t len (parts.map fun (x : Nat × Operand) => (x.1, a.eval x.2))).run P w = .ok (.slice (some ⟨w.heap.size, 0, none⟩) len len) { w with heap := w.heap.push (.cells ⟨r'⟩ elem (0, 0)) } := by
              unfold Instr.buildSlice
              have hbig : ¬ len * ei.size > 2 ^ 24 := by omega
              simp only [Sem.run_bind, und_run hE w hi, hd, Result.andThen_ok, size_run hE w hei, hbig, if_false]
              have g1' : Instr.fill (fun i => some (i * ei.size, ei.size)) ((Array.range (len * ei.size)).map (ei.zero.cells[· % ei.zero.cells.size]!)) (parts.map fun (x : Nat × Operand) => (x.1, a.eval x.2)).toList = some ⟨r'⟩ := by rw [hml]; exact g1
              split
              · rename_i h0
                have hr : Array.range (len * ei.size) = #[] := by rw [h0]; rfl
                simp only [hr, List.map_toArray, List.map_nil] at g1'
                simp only [Sem.run_bind, Sem.run_pure, Result.andThen_ok, hr, List.map_toArray, List.map_nil, g1', newRow, run_newObj]
              · simp only [Sem.run_bind, Sem.run_pure, Result.andThen_ok, zero_run hE w hei, g1', newRow, run_newObj]
            simp only [Sem.run_bind, hmk, Result.andThen_ok, Sem.run_pure]
            exact good_new (p := ⟨w.heap.size, 0, ei.size, len, none⟩) (o := ⟨es, ei.size, elem, true⟩) (fz := (0, 0)) hR (hn _ (Nat.le_refl _) (by omega)) rfl rfl hpos (by show es.length ≤ len; omega) g3 g2 (by show 0 + len * ei.size ≤ r'.length; omega) (FzOk.zero _ _) w.drawn (by
              have h_ := VR_row ι n ⟨w.heap.size, 0, ei.size, len, none⟩ (len := len) (Nat.le_refl _) rfl
              rw [g4']; exact h_)
          · exact (fail_run h).elim
        · exact (fail_run h).elim
      · exact (fail_run h).elim
    · exact (fail_run h).elim
  · exact (fail_run h).elim
end
end Go.Proofs.YtgajcmanompmcaaV
