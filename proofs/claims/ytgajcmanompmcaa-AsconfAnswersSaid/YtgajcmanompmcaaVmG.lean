/- The abstract machine: new memory. -/
import Derived.Test.YtgajcmanompmcaaVmF
import Derived.IntWalk
set_option linter.unusedVariables false
set_option linter.unusedSimpArgs false
namespace Go.Proofs.YtgajcmanompmcaaV
open Go.RowKit
def Inj.set (ι : Inj) (n : Nat) (p : Place) : Inj := fun i => if i = n then some p else ι i
theorem Inj.set_self (ι : Inj) (n : Nat) (p : Place) : ι.set n p n = some p := by simp [Inj.set]
theorem Inj.set_le {ι : Inj} {n : Nat} (h : ι n = none) (p : Place) : ι.le (ι.set n p) := fun i q e => by
  show (if i = n then some p else ι i) = some q
  rw [if_neg (fun hi => by rw [hi, h] at e; cases e)]; exact e
theorem Inj.set_only {ι : Inj} {n : Nat} {p : Place} (i : Nat) (h : ι.set n p i ≠ ι i) : n ≤ i ∧ i < n + 1 := by
  unfold Inj.set at h
  by_cases hi : i = n
  · omega
  · rw [if_neg hi] at h; exact absurd rfl h

section
variable {P : Program} {E : Env} {τ : Nat → Value} {a : Act} {ι : Inj} {σ : Store} {N n n' : Nat} {w0 w : World} {v : Value} {d : Delta}

theorem rel_new (hR : Rel E.den N w0 ι σ w) (hn : ι n = none) {o : AObj} {p : Place} {arr : Array Value} {fz : Nat × Nat} (hb : p.b = w.heap.size) (hsz : p.sz = o.sz) (hpos : 0 < o.sz) (hcap : o.es.length ≤ p.cap) (hlen : ∀ (k : Nat) (e : List Value), o.es[k]? = some e → e.length = o.sz)
    (hcell : Holds ι p.sz o.es arr.toList p.off) (hroom : p.off + p.cap * p.sz ≤ arr.size) (hfz : FzOk o.sz arr.size fz) (dr : Nat) :
    Rel E.den N w0 (ι.set n p) (app [(n, some o)] σ) { w with heap := w.heap.push (.cells arr o.t fz), drawn := dr } :=
  hR.new n hn o p arr fz hb hsz hpos hcap hlen (fun k e he j v hv => by
    obtain ⟨v', h1, h2, h3⟩ := hcell k e he j v hv
    exact ⟨v', by simpa using h1, h2, h3⟩) hroom hfz _ rfl rfl rfl rfl

theorem good_new (hR : Rel E.den N w0 ι σ w) (hn : ι n = none) {o : AObj} {p : Place} {arr : Array Value} {fz : Nat × Nat} (hb : p.b = w.heap.size) (hsz : p.sz = o.sz) (hpos : 0 < o.sz) (hcap : o.es.length ≤ p.cap) (hlen : ∀ (k : Nat) (e : List Value), o.es[k]? = some e → e.length = o.sz)
    (hcell : Holds ι p.sz o.es arr.toList p.off) (hroom : p.off + p.cap * p.sz ≤ arr.size) (hfz : FzOk o.sz arr.size fz) (dr : Nat) {v v' : Value} (hv : VR (ι.set n p) v v') :
    Good E.den N w0 ι σ n (n + 1) v [(n, some o)] (.ok (.value v') { w with heap := w.heap.push (.cells arr o.t fz), drawn := dr }) :=
  ⟨_, _, v', ι.set n p, rfl, .inl rfl, Inj.set_le hn p, fun i => Inj.set_only i, rel_new hR hn hb hsz hpos hcap hlen hcell hroom hfz dr, hv⟩

theorem holds_one {l l' : List Value} (h : VRs ι l l') (h1 : l.all oneB = true) : Holds ι l.length [l] l' 0 := by
  intro k e he j v hv
  cases k with
  | zero =>
    simp at he; subst he
    obtain ⟨v', g1, g2⟩ := h.get j v hv
    exact ⟨v', by simpa using g1, g2, List.all_eq_true.1 h1 v (List.mem_of_getElem? hv)⟩
  | succ k => simp at he

theorem op_box (hR : Rel E.den N w0 ι σ w) (hτ : TR ι τ a) (hn : ∀ i, n ≤ i → i < n' → ι i = none) {t : Nat} {x : Operand} (h : (ev τ x fun v => if decide (0 < (cellsL v).length) && (cellsL v).all oneB then .fresh fun n => .ret (.pointer (some ⟨n, 0, some 0⟩)) [(n, some ⟨[cellsL v], (cellsL v).length, t, true⟩)] else .fail).run n σ = some (v, n', d)) :
    Good E.den N w0 ι σ n n' v d ((do pure (Next.value (← Instr.box t (a.eval x))) : Sem Next).run P w) := by
  obtain ⟨u, hu, h⟩ := ev_run hτ h
  generalize a.eval x = x' at hu
  split at h
  · rename_i hc
    simp only [Bool.and_eq_true, decide_eq_true_eq] at hc
    obtain ⟨rfl, rfl, rfl⟩ := ret_run (fresh_run h)
    have hcells := hu.cells
    have hl := hcells.length
    simp only [Instr.box, newVar, newRow, Sem.run_bind, run_newObj, Result.andThen_ok, Sem.run_pure]
    exact good_new (p := ⟨w.heap.size, 0, (cellsL u).length, 1, none⟩) (o := ⟨[cellsL u], (cellsL u).length, t, true⟩) (fz := (0, 0)) hR (hn _ (Nat.le_refl _) (by omega)) rfl rfl hc.1 (by simp) (fun k e he => by cases k <;> simp at he; rw [← he]) (holds_one hcells hc.2) (by simp only [Nat.zero_add, Nat.one_mul]; unfold cellsL; rw [hl]; simp) (FzOk.zero _ _) w.drawn (VR_ptr (Inj.set_self _ _ _) rfl (by simp))
  · exact (fail_run h).elim

theorem op_alloc (hE : EnvOk P E) (hR : Rel E.den N w0 ι σ w) (hn : ∀ i, n ≤ i → i < n' → ι i = none) {t : Nat} (h : (match E.ty t with
    | some i => if decide (0 < i.size) && (cellsL i.zero).length = i.size then T.fresh fun n => .ret (.pointer (some ⟨n, 0, some 0⟩)) [(n, some ⟨[cellsL i.zero], i.size, t, true⟩)] else .fail
    | none => .fail).run n σ = some (v, n', d)) :
    Good E.den N w0 ι σ n n' v d ((do pure (Next.value (← Instr.alloc t true (.tuple #[]))) : Sem Next).run P w) := by
  split at h
  · rename_i i hi
    split at h
    · rename_i hc
      simp only [Bool.and_eq_true, decide_eq_true_eq] at hc
      obtain ⟨rfl, rfl, rfl⟩ := ret_run (fresh_run h)
      obtain ⟨hz, hl, h1⟩ := hE.zero _ _ hi
      have hcells := (hz ι).cells
      simp only [Instr.alloc, newVar, newRow, Sem.run_bind, zero_run hE w hi, run_newObj, Result.andThen_ok, Sem.run_pure]
      exact good_new (p := ⟨w.heap.size, 0, i.size, 1, none⟩) (o := ⟨[cellsL i.zero], i.size, t, true⟩) (fz := (0, 0)) hR (hn _ (Nat.le_refl _) (by omega)) rfl rfl hc.1 (by simp) (fun k e he => by cases k <;> simp at he; rw [← he]; exact hl) (by have := holds_one hcells h1; unfold cellsL at hl; rw [hl] at this; exact this) (by simp only [Nat.zero_add, Nat.one_mul]; unfold cellsL at hl; simp at hl; omega) (FzOk.zero _ _) w.drawn (VR_ptr (Inj.set_self _ _ _) rfl (by simp))
    · exact (fail_run h).elim
  · exact (fail_run h).elim

theorem VR_row (ι : Inj) (n : Nat) (p : Place) {len : Nat} (h : len ≤ p.cap) (h0 : p.off = 0) : VR (ι.set n p) (.slice (some ⟨n, 0, none⟩) len 0) (.slice (some ⟨p.b, 0, none⟩) len p.cap) :=
  VR_slice (Inj.set_self ι n p) (by omega) rfl (by rw [h0]; simp) (by simp)
/-- The cells of a new row of zero values. -/
theorem zeros_get (z : Array Value) (m q : Nat) (hz : 0 < z.size) (hq : q < m) : ((Array.range m).map (z[· % z.size]!))[q]? = z[q % z.size]? := by
  simp [hq]
  rw [Array.getElem?_eq_getElem (Nat.mod_lt _ hz)]
  simp [Nat.mod_lt _ hz]
theorem holds_zeros {i : TI} (hE : EnvOk P E) {t : Nat} (hi : E.ty t = some i) (hpos : 0 < i.size) (l m : Nat) (hm : l * i.size ≤ m) : Holds ι i.size (List.replicate l (cellsL i.zero)) ((Array.range m).map (i.zero.cells[· % i.zero.cells.size]!)).toList 0 := by
  obtain ⟨hz, hl, h1⟩ := hE.zero _ _ hi
  intro k e he j v hv
  rw [List.getElem?_replicate] at he
  split at he
  · rename_i hk
    cases he
    have hsz : i.zero.cells.size = i.size := by unfold cellsL at hl; simpa using hl
    have hj : j < i.size := by rw [← hl]; exact (List.getElem?_eq_some_iff.1 hv).1
    have hlt := mul_step hk hj
    obtain ⟨v', g1, g2⟩ := (hz ι).cells.get j v hv
    refine ⟨v', ?_, g2, List.all_eq_true.1 h1 v (List.mem_of_getElem? hv)⟩
    rw [Nat.zero_add, Array.getElem?_toList, zeros_get _ _ _ (by omega) (by omega), hsz, Nat.add_comm, Nat.add_mul_mod_self_right, Nat.mod_eq_of_lt hj]
    simpa using g1
  · cases he

theorem op_makeSlice (hE : EnvOk P E) (hR : Rel E.den N w0 ι σ w) (hτ : TR ι τ a) (hn : ∀ i, n ≤ i → i < n' → ι i = none) {t : Nat} {x y : Operand} (h : (ev τ x fun
    | .int .i64 n => ev τ y fun
      | .int .i64 m => match E.ty t with
        | some i => match i.d with
          | .slice elem => match E.ty elem with
            | some ei => if decide (0 ≤ n) && decide (n ≤ m) && small m.toNat ei.bytes && decide (0 < ei.size) && (cellsL ei.zero).length = ei.size then newRowT (List.replicate n.toNat (cellsL ei.zero)) ei.size elem [] else .fail
            | none => .fail
          | _ => .fail
        | none => .fail
      | _ => .fail
    | _ => .fail).run n σ = some (v, n', d)) :
    Good E.den N w0 ι σ n n' v d ((do pure (Next.value (← Instr.makeSlice t (a.eval x) (a.eval y))) : Sem Next).run P w) := by
  obtain ⟨u, hu, h⟩ := ev_run hτ h
  generalize a.eval x = x' at hu
  split at h
  · rename_i l
    obtain ⟨z, hz, h⟩ := ev_run hτ h
    generalize a.eval y = y' at hz
    split at h
    · rename_i m
      split at h
      · rename_i i hi
        split at h
        · rename_i elem hd
          split at h
          · rename_i ei hei
            split at h
            · rename_i hc
              simp only [Bool.and_eq_true, decide_eq_true_eq, small] at hc
              obtain ⟨⟨⟨⟨h0, hlm⟩, hs1, hs2⟩, hpos⟩, hzl⟩ := hc
              obtain ⟨rfl, rfl, rfl⟩ := ret_run (fresh_run h)
              cases hu; cases hz
              obtain ⟨inf, hinf, hbytes⟩ := bytes_run hE w hei
              have wl : IntKind.i64.wrap l = l := IntWalk.i64_in l (by omega)
              have wm : IntKind.i64.wrap m = m := IntWalk.i64_in m (by omega)
              have hbig : inf.bytes * m ≤ 2 ^ 48 := by
                rw [hbytes]
                have h1 : ((ei.bytes : Int)) * m ≤ 65536 * 1073741824 := Int.mul_le_mul (by omega) (by omega) (by omega) (by omega)
                exact Int.le_trans h1 (by decide)
              have c1 : ((decide (m < 0) || decide ((inf.bytes : Int) * m > 2 ^ 48)) || decide (l < 0) || decide (l > m)) = false := by
                simp only [Bool.or_eq_false_iff, decide_eq_false_iff_not]
                refine ⟨⟨⟨by omega, ?_⟩, by omega⟩, by omega⟩
                have := hbig; omega
              have hmk : (Instr.makeSlice t (.int .i64 l) (.int .i64 m)).run P w = .ok (.slice (some ⟨w.heap.size, 0, none⟩) l.toNat m.toNat) { w with heap := w.heap.push (.cells ((Array.range (m.toNat * ei.size)).map (ei.zero.cells[· % ei.zero.cells.size]!)) elem (0, 0)) } := by
                unfold Instr.makeSlice
                simp only [Sem.run_bind, und_run hE w hi, hd, Result.andThen_ok, asInt, asIntOf, Sem.run_pure, hinf, wl, wm, c1, Bool.false_eq_true, if_false, run_askRoom, size_run hE w hei]
                split
                · rename_i hz0
                  have hr : Array.range (m.toNat * ei.size) = #[] := by rw [hz0]; rfl
                  simp only [Sem.run_bind, Sem.run_pure, Result.andThen_ok, newRow, run_newObj, hr, List.map_toArray, List.map_nil]
                · simp only [Sem.run_bind, Sem.run_pure, Result.andThen_ok, newRow, run_newObj, zero_run hE w hei]
              simp only [Sem.run_bind, hmk, Result.andThen_ok, Sem.run_pure]
              exact good_new (p := ⟨w.heap.size, 0, ei.size, m.toNat, none⟩) (o := ⟨List.replicate l.toNat (cellsL ei.zero), ei.size, elem, true⟩) (fz := (0, 0)) hR (hn _ (Nat.le_refl _) (by omega)) rfl rfl hpos (by simp; omega) (fun k e he => by rw [List.getElem?_replicate] at he; split at he <;> cases he; exact hzl) (holds_zeros hE hei hpos _ _ (Nat.mul_le_mul_right _ (by omega))) (by simp) (FzOk.zero _ _) w.drawn (by have h_ := VR_row ι n ⟨w.heap.size, 0, ei.size, m.toNat, none⟩ (len := l.toNat) (show l.toNat ≤ m.toNat by omega) rfl; simpa using h_)
            · exact (fail_run h).elim
          · exact (fail_run h).elim
        · exact (fail_run h).elim
      · exact (fail_run h).elim
    · exact (fail_run h).elim
  · exact (fail_run h).elim
end
end Go.Proofs.YtgajcmanompmcaaV
