/- The abstract machine: memory. -/
import Derived.Test.YtgajcmanompmcaaVmE
set_option linter.unusedVariables false
set_option linter.unusedSimpArgs false
namespace Go.Proofs.YtgajcmanompmcaaV
open Go.RowKit

theorem get_run {i : Nat} {k : AObj → T} {n : Nat} {σ : Store} {r : Value × Nat × Delta} (h : (T.get i k).run n σ = some r) : ∃ o, σ i = some o ∧ (k o).run n σ = some r := by
  simp only [T.run] at h
  split at h
  · exact ⟨_, ‹_›, h⟩
  · cases h
theorem fresh_run {k : Nat → T} {n : Nat} {σ : Store} {r : Value × Nat × Delta} (h : (T.fresh k).run n σ = some r) : (k n).run (n + 1) σ = some r := h
theorem VR_ptr {ι : Inj} {i k j b o : Nat} {p : Place} (h : ι i = some p) (hb : b = p.b) (ho : o = p.off + k * p.sz + j) : VR ι (.pointer (some ⟨i, k, some j⟩)) (.pointer (some ⟨b, o, none⟩)) := by
  subst hb ho; exact .ptr h
theorem VR_slice {ι : Inj} {i o n b q c : Nat} {p : Place} (h : ι i = some p) (hc : o + n ≤ p.cap) (hb : b = p.b) (hq : q = p.off + o * p.sz) (hcc : c = p.cap - o) : VR ι (.slice (some ⟨i, o, none⟩) n 0) (.slice (some ⟨b, q, none⟩) n c) := by
  subst hb hq hcc; exact .slice h hc

section
variable {α : Type}
theorem ov_length {e c : List α} {j : Nat} (h : j + c.length ≤ e.length) : (ov e j c).length = e.length := by
  simp [ov]; omega
theorem ov_get {e c : List α} {j : Nat} (h : j + c.length ≤ e.length) (m : Nat) : (ov e j c)[m]? = if m < j then e[m]? else if m < j + c.length then c[m - j]? else e[m]? := by
  unfold ov
  by_cases h1 : m < j
  · rw [if_pos h1, List.append_assoc, List.getElem?_append_left (by simp; omega), List.getElem?_take, if_pos h1]
  · rw [if_neg h1, List.append_assoc, List.getElem?_append_right (by simp; omega)]
    simp only [List.length_take, Nat.min_eq_left (show j ≤ e.length by omega)]
    by_cases h2 : m < j + c.length
    · rw [if_pos h2, List.getElem?_append_left (by omega)]
    · rw [if_neg h2, List.getElem?_append_right (by omega), List.getElem?_drop]
      congr 1; omega
end

/-- A row of cells shows elements. -/
def Holds (ι : Inj) (sz : Nat) (es : List (List Value)) (arr : List Value) (off : Nat) : Prop :=
  ∀ (k : Nat) (e : List Value), es[k]? = some e → ∀ (j : Nat) (v : Value), e[j]? = some v → ∃ v', arr[off + k * sz + j]? = some v' ∧ VR ι v v' ∧ oneB v = true

theorem mul_step {k k' sz j : Nat} (h : k' < k) (hj : j < sz) : k' * sz + j < k * sz := by
  have : (k' + 1) * sz ≤ k * sz := Nat.mul_le_mul_right _ h
  rw [Nat.add_mul] at this
  omega

theorem setRow_other (w : World) (g : Nat) (cs : Array Value) (k : Nat) (h : k ≠ g) : (w.setRow g cs).heap[k]? = w.heap[k]? := by
  unfold World.setRow
  simp only [Array.getElem?_modify]
  rw [if_neg (fun e => h e.symm)]
theorem setRow_size (w : World) (g : Nat) (cs : Array Value) : (w.setRow g cs).heap.size = w.heap.size := by simp [World.setRow]
theorem oneB_cell' {v : Value} (h : oneB v = true) : v.oneCell' = true := by cases v <;> first | rfl | cases h

/-- Cells written one after the other. -/
theorem storeCells_run (P : Program) (g : Nat) (t : TypeId) (fz : Nat × Nat) (o : Nat) : ∀ (vs : List Value) (i : Nat) (cur : Array Value) (w : World), w.heap[g]? = some (.cells cur t fz) → (∀ k, k < cur.size → ¬ (fz.1 ≤ k ∧ k < fz.2)) → o + i + vs.length ≤ cur.size → (∀ v ∈ vs, oneB v = true) →
    (storeCells ⟨g, o, none⟩ vs i).run P w = .ok () (w.setRow g ⟨ov cur.toList (o + i) vs⟩)
  | [], i, cur, w, hg, _, _, _ => by
    have e : (Array.mk (ov cur.toList (o + i) []) : Array Value) = cur := by
      apply Array.ext'
      simp [ov]
    rw [e, setRow_self w g cur t fz hg]
    rfl
  | v :: rest, i, cur, w, hg, hfz, hl, h1 => by
    have hi : o + i < cur.size := by simp at hl; omega
    have hcell : w.cell? ⟨g, o + i, none⟩ = some cur[o + i] := by simp [World.cell?, hg, hi]
    have hfro : w.frozen? ⟨g, o + i, none⟩ = false := by
      obtain ⟨lo, hi'⟩ := fz
      have := hfz (o + i) hi
      simp only [World.frozen?, hg, Bool.and_eq_false_iff, decide_eq_false_iff_not]
      simp only at this
      omega
    have hst : (store ((⟨g, o, none⟩ : Addr).add i) v).run P w = .ok () (w.setRow g (cur.setIfInBounds (o + i) v)) := by
      rw [addr_add, run_store P w _ v _ (oneB_cell' (h1 v (by simp))), hcell]
      simp [hfro, setCell_eq_setRow w g (o + i) cur t fz v hg]
    have ih := storeCells_run P g t fz o rest (i + 1) (cur.setIfInBounds (o + i) v) (w.setRow g (cur.setIfInBounds (o + i) v)) (setRow_heap w g cur _ t _ hg) (by simpa using hfz) (by simp at hl ⊢; omega) (fun x hx => h1 x (by simp [hx]))
    simp only [storeCells, Sem.run_bind, hst, Result.andThen_ok, ih, setRow_setRow]
    congr 3
    have e := list_seg_step cur.toList (o + i) v rest (by simp at hl ⊢; omega)
    simpa [ov, Array.toList_setIfInBounds, Nat.add_assoc] using e

section
variable {P : Program} {E : Env} {τ : Nat → Value} {a : Act} {ι : Inj} {σ : Store} {N n n' : Nat} {w0 w : World} {v : Value} {d : Delta}

theorem cells_of {c : List Value} {f : Nat → Addr} (h : ∀ (m : Nat) (v : Value), c[m]? = some v → ∃ v', w.cell? (f m) = some v' ∧ VR ι v v') : ∃ c', VRs ι c c' ∧ ∀ (m : Nat) (v' : Value), c'[m]? = some v' → w.cell? (f m) = some v' := by
  induction c generalizing f with
  | nil => exact ⟨[], .nil, fun m v' e => by simp at e⟩
  | cons x c ih =>
    obtain ⟨x', h1, h2⟩ := h 0 x rfl
    obtain ⟨c', h3, h4⟩ := ih (f := fun m => f (m + 1)) (fun m v e => h (m + 1) v (by simpa using e))
    refine ⟨x' :: c', .cons h2 h3, fun m v' e => ?_⟩
    cases m with
    | zero => simp at e; subst e; exact h1
    | succ m => exact h4 m v' (by simpa using e)

/-- A segment of an element, as memory has it. -/
theorem seg_of {o : AObj} {p : Place} (hO : ObjR N ι o p w) {k : Nat} {e : List Value} (he : o.es[k]? = some e) (j m : Nat) :
    ∃ c', VRs ι ((e.drop j).take m) c' ∧ ∀ (q : Nat) (v' : Value), c'[q]? = some v' → w.cell? ((⟨p.b, p.off + k * p.sz + j, none⟩ : Addr).add q) = some v' := by
  refine cells_of (fun q v hv => ?_)
  rw [List.getElem?_take] at hv
  split at hv
  · rw [List.getElem?_drop] at hv
    obtain ⟨v', h1, h2, _⟩ := hO.cell k e he (j + q) v hv
    exact ⟨v', by rw [addr_add]; simpa [Nat.add_assoc] using h1, h2⟩
  · cases hv

theorem op_load (hE : EnvOk P E) (hR : Rel E.den N w0 ι σ w) (hτ : TR ι τ a) {t : Nat} {x : Operand} (h : (ev τ x fun
    | .pointer (some ⟨i, k, some j⟩) => match E.ty t with
      | some ti => .get i fun ob => match ob.es[k]? with
        | some e => if ((e.drop j).take ti.size).length = ti.size then orFail (mkv ti.d ((e.drop j).take ti.size)) else .fail
        | none => .fail
      | none => .fail
    | _ => .fail).run n σ = some (v, n', d)) : Good E.den N w0 ι σ n n' v d ((do pure (Next.value (← Instr.loadAt t (a.eval x))) : Sem Next).run P w) := by
  obtain ⟨u, hu, h⟩ := ev_run hτ h
  generalize a.eval x = x' at hu
  split at h
  · rename_i i k j
    split at h
    · rename_i ti ht
      obtain ⟨ob, ho, h⟩ := get_run h
      split at h
      · rename_i e he
        split at h
        · rename_i hl
          unfold orFail at h
          split at h
          · rename_i z hz
            obtain ⟨rfl, rfl, rfl⟩ := ret_run h
            cases hu with
            | @ptr _ _ _ p hp =>
              obtain ⟨q, g1, g2, g3⟩ := hR.obj i ob ho
              rw [hp] at g1; cases g1
              obtain ⟨c', h1, h2⟩ := seg_of g3 he j ti.size
              have hlen : c'.length = ti.size := by rw [← h1.length, hl]
              unfold mkv at hz
              have hload := run_loadCells_list (P := P) w ⟨p.b, p.off + k * p.sz + j, none⟩ c' h2
              rw [hlen] at hload
              split at hz
              · rename_i hagg
                cases hz
                refine good_of hR (.agg h1) ?_
                simp only [Instr.loadAt, Instr.sureAddr, Sem.run_bind, Sem.run_pure, Result.andThen_ok, loadVar, isAgg_run hE w ht, hagg, if_true, size_run hE w ht, hload]
              · rename_i hagg
                split at hz
                · rename_i y hy
                  cases hz
                  rw [hy] at h1
                  cases h1 with
                  | @cons _ v' _ _ hv hs =>
                    cases hs
                    have hc := h2 0 v' rfl
                    rw [addr_add, Nat.add_zero] at hc
                    refine good_of hR hv ?_
                    simp only [Instr.loadAt, Instr.sureAddr, Sem.run_bind, Sem.run_pure, Result.andThen_ok, loadVar, isAgg_run hE w ht, hagg, Bool.false_eq_true, if_false, run_load, hc]
                · cases hz
          · exact (fail_run h).elim
        · exact (fail_run h).elim
      · exact (fail_run h).elim
    · exact (fail_run h).elim
  · exact (fail_run h).elim

/-- What is written into one object's block. -/
theorem good_put {i : Nat} {o o' : AObj} {p : Place} (hR : Rel E.den N w0 ι σ w) (hi : σ i = some o) (hw : o.w = true) (hp : ι i = some p) (hcp : 0 < p.cap) (ht : o'.t = o.t) (hs : o'.sz = o.sz) (hw' : o'.w = true)
    (hlen : ∀ (k : Nat) (e : List Value), o'.es[k]? = some e → e.length = o.sz) (hcap : o'.es.length ≤ p.cap) {arr : Array Value} {fz : Nat × Nat} {arr' : List Value} (hblk : w.heap[p.b]? = some (.cells arr o.t fz)) (hsz : arr'.length = arr.size)
    (hcell : Holds ι p.sz o'.es arr' p.off) : Rel E.den N w0 ι (app [(i, some o')] σ) (w.setRow p.b ⟨arr'⟩) :=
  hR.put hi hw hp hcp ht hs hw' hlen hcap (arr' := ⟨arr'⟩) hblk (by simpa using hsz) (fun k e he j v hv => by
    obtain ⟨v', h1, h2, h3⟩ := hcell k e he j v hv
    exact ⟨v', by simpa using h1, h2, h3⟩) _ (fun k hk => setRow_other _ _ _ _ hk) (setRow_heap _ _ _ _ _ _ hblk) (setRow_size _ _ _) rfl rfl rfl

theorem Holds.set {ι : Inj} {sz : Nat} {es : List (List Value)} {arr : List Value} {off k j : Nat} {e c c' : List Value} (h : Holds ι sz es arr off) (he : es[k]? = some e) (hlen : ∀ (k : Nat) (e : List Value), es[k]? = some e → e.length = sz)
    (hj : j + c.length ≤ sz) (hc : VRs ι c c') (h1 : c.all oneB = true) (hroom : off + k * sz + sz ≤ arr.length) : Holds ι sz (es.set k (ov e j c)) (ov arr (off + k * sz + j) c') off := by
  intro k2 e2 he2 j2 v hv
  have hcl := hc.length
  have hel := hlen k e he
  rw [ov_get (by omega)]
  by_cases hk : k2 = k
  · subst hk
    rw [List.getElem?_set_self (by exact (List.getElem?_eq_some_iff.1 he).1)] at he2
    cases he2
    rw [ov_get (by omega)] at hv
    split at hv
    · rw [if_pos (by omega)]; exact h k2 e he j2 v hv
    · rename_i hlt
      split at hv
      · rename_i hlt2
        rw [if_neg (by omega), if_pos (by omega)]
        obtain ⟨v', g1, g2⟩ := hc.get _ _ hv
        refine ⟨v', by rw [← g1]; congr 1; omega, g2, ?_⟩
        exact List.all_eq_true.1 h1 v (List.mem_of_getElem? hv)
      · rw [if_neg (by omega), if_neg (by omega)]; exact h k2 e he j2 v hv
  · rw [List.getElem?_set_ne (fun e => hk e.symm)] at he2
    have hj2 : j2 < sz := by
      have := (List.getElem?_eq_some_iff.1 hv).1
      rw [hlen k2 e2 he2] at this
      exact this
    rcases Nat.lt_or_gt_of_ne hk with hlt | hgt
    · have := mul_step hlt hj2
      rw [if_pos (by omega)]
      exact h k2 e2 he2 j2 v hv
    · have h3 : (k + 1) * sz ≤ k2 * sz := Nat.mul_le_mul_right _ hgt
      rw [Nat.add_mul] at h3
      rw [if_neg (by omega), if_neg (by omega)]
      exact h k2 e2 he2 j2 v hv

theorem ObjR.holds {o : AObj} {p : Place} (hO : ObjR N ι o p w) {arr : Array Value} {fz : Nat × Nat} (hb : w.heap[p.b]? = some (.cells arr o.t fz)) : Holds ι p.sz o.es arr.toList p.off := by
  intro k e he j v hv
  obtain ⟨v', h1, h2, h3⟩ := hO.cell k e he j v hv
  refine ⟨v', ?_, h2, h3⟩
  unfold World.cell? at h1
  simp only [hb, Option.isSome_none, Bool.false_eq_true, if_false] at h1
  simpa using h1

theorem op_store (hE : EnvOk P E) (hR : Rel E.den N w0 ι σ w) (hτ : TR ι τ a) {t : Nat} {x y : Operand} (h : (ev τ x fun
    | .pointer (some ⟨i, k, some j⟩) => ev τ y fun v => match E.ty t with
      | some ti => .get i fun ob => match ob.es[k]? with
        | some e => if decide (j + ti.size ≤ e.length) && (cellsL v).length = ti.size && (cellsL v).all oneB && ob.w then .ret (.tuple #[]) [(i, some { ob with es := ob.es.set k (ov e j (cellsL v)) })] else .fail
        | none => .fail
      | none => .fail
    | _ => .fail).run n σ = some (v, n', d)) : Good E.den N w0 ι σ n n' v d ((do Instr.storeAt t (a.eval x) (a.eval y); pure .skip : Sem Next).run P w) := by
  obtain ⟨u, hu, h⟩ := ev_run hτ h
  generalize a.eval x = x' at hu
  split at h
  · rename_i i k j
    obtain ⟨z, hz, h⟩ := ev_run hτ h
    generalize a.eval y = y' at hz
    split at h
    · rename_i ti ht
      obtain ⟨ob, ho, h⟩ := get_run h
      split at h
      · rename_i e he
        split at h
        · rename_i hc
          simp only [Bool.and_eq_true, decide_eq_true_eq] at hc
          obtain ⟨⟨⟨hj, hl⟩, h1⟩, hw⟩ := hc
          obtain ⟨rfl, rfl, rfl⟩ := ret_run h
          cases hu with
          | @ptr _ _ _ p hp =>
            obtain ⟨q, g1, g2, g3⟩ := hR.obj i ob ho
            rw [hp] at g1; cases g1
            have hkl : k < ob.es.length := (List.getElem?_eq_some_iff.1 he).1
            have hcp : 0 < p.cap := by have := g3.cap; omega
            obtain ⟨hN, arr, fz, hb, hroom, hfz⟩ := g3.own hw hcp
            have hcells := hz.cells
            have hk1 : (k + 1) * p.sz ≤ p.cap * p.sz := Nat.mul_le_mul_right _ (by have := g3.cap; omega)
            rw [Nat.add_mul] at hk1
            have hel := g3.len k e he
            have hsz := g3.sz
            have hlen' : y'.cells.toList.length = ti.size := by rw [← hcells.length]; exact hl
            have hone' : ∀ v ∈ y'.cells.toList, oneB v = true := by
              intro v hv
              obtain ⟨m, hm⟩ := List.getElem?_of_mem hv
              obtain ⟨v0, e0, hv0⟩ := hcells.get' m v hm
              rw [hv0.oneB]
              exact List.all_eq_true.1 h1 v0 (List.mem_of_getElem? e0)
            have hst := storeCells_run P p.b ob.t fz (p.off + k * p.sz + j) y'.cells.toList 0 arr w hb hfz.1 (by rw [hlen']; omega) hone'
            refine ⟨.skip, w.setRow p.b ⟨ov arr.toList (p.off + k * p.sz + j) y'.cells.toList⟩, undef, ι, ?_, .inr ⟨rfl, rfl⟩, Inj.le_refl _, fun i h => absurd rfl h, ?_, .tuple .nil⟩
            · have hs' : (storeVar t ⟨p.b, p.off + k * p.sz + j, none⟩ y').run P w = .ok () (w.setRow p.b ⟨ov arr.toList (p.off + k * p.sz + j) y'.cells.toList⟩) := by
                unfold storeVar
                have : ¬ y'.cells.size ≠ ti.size := by rw [← hlen']; simp
                simp only [Sem.run_bind, size_run hE w ht, Result.andThen_ok, this, if_false, Sem.run_pure]
                exact hst
              simp only [Instr.storeAt, Instr.sureAddr, Sem.run_bind, Sem.run_pure, Result.andThen_ok, hs']
            · refine good_put (o' := { ob with es := ob.es.set k (ov e j (cellsL z)) }) hR ho hw hp hcp rfl rfl hw (fun k2 e2 he2 => ?_) (by simpa using g3.cap) hb (by rw [ov_length (e := arr.toList) (j := p.off + k * p.sz + j) (c := y'.cells.toList) (by rw [hlen', Array.length_toList]; omega), Array.length_toList]) ?_
              · by_cases hk : k2 = k
                · subst hk
                  rw [List.getElem?_set_self hkl] at he2
                  cases he2
                  rw [ov_length (by omega)]; exact hel
                · rw [List.getElem?_set_ne (fun e => hk e.symm)] at he2
                  exact g3.len k2 e2 he2
              · exact (g3.holds hb).set he (by rw [hsz]; exact g3.len) (by rw [hl]; omega) hcells h1 (by simp; omega)
        · exact (fail_run h).elim
      · exact (fail_run h).elim
    · exact (fail_run h).elim
  · exact (fail_run h).elim
end
end Go.Proofs.YtgajcmanompmcaaV
