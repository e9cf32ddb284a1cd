/- The abstract machine: indexes, slices, conversions. -/
import Derived.Test.YtgajcmanompmcaaVmH
set_option linter.unusedVariables false
set_option linter.unusedSimpArgs false
namespace Go.Proofs.YtgajcmanompmcaaV
open Go.RowKit
section
variable {P : Program} {E : Env} {τ : Nat → Value} {a : Act} {ι : Inj} {σ : Store} {N n n' : Nat} {w0 w : World} {v : Value} {d : Delta}

theorem op_index (hE : EnvOk P E) (hR : Rel E.den N w0 ι σ w) (hτ : TR ι τ a) {t : Nat} {x y : Operand} (h : (ev τ x fun xv => ev τ y fun
    | .int _ n => match E.ty t with
      | some i => match i.d, xv with
        | .array len elem, .agg cs => match E.ty elem with
          | some ei => if decide (0 ≤ n) && decide (n < len) then orFail (part E elem cs.toList (n.toNat * ei.size)) else .fail
          | none => .fail
        | .string, .string s => if h : 0 ≤ n ∧ n.toNat < s.size then .ret (.int .u8 ((s[n.toNat]'h.2).toNat : Nat)) [] else .fail
        | _, _ => .fail
      | none => .fail
    | _ => .fail).run n σ = some (v, n', d)) : Good E.den N w0 ι σ n n' v d ((do pure (Next.value (← Instr.index t (a.eval x) (a.eval y))) : Sem Next).run P w) := by
  obtain ⟨u, hu, h1⟩ := ev_run hτ h
  clear h
  obtain ⟨z, hz, h⟩ := ev_run hτ h1
  clear h1
  generalize a.eval x = x' at hu
  generalize a.eval y = y' at hz
  split at h
  · rename_i k m
    cases hz
    split at h
    · rename_i i hi
      split at h
      · rename_i len elem cs hd
        split at h
        · rename_i ei hei
          split at h
          · rename_i hc
            simp only [Bool.and_eq_true, decide_eq_true_eq] at hc
            unfold orFail at h
            split at h
            · rename_i q hq
              obtain ⟨rfl, rfl, rfl⟩ := ret_run h
              cases hu with
              | agg hs =>
                obtain ⟨v', h1, h2⟩ := part_run hE w hs hq
                refine good_of hR h2 ?_
                unfold Instr.index
                simp only [Sem.run_bind, asIntOf, Sem.run_pure, und_run hE w hi, Result.andThen_ok, hd, hc, and_self, if_true, size_run hE w hei, h1]
            · exact (fail_run h).elim
          · exact (fail_run h).elim
        · exact (fail_run h).elim
      · rename_i s hd
        split at h
        · rename_i hc
          obtain ⟨rfl, rfl, rfl⟩ := ret_run h
          cases hu
          refine good_of hR (.int _ _) ?_
          unfold Instr.index
          have e : (if 0 ≤ m then s[m.toNat]? else none) = some (s[m.toNat]'hc.2) := by
            rw [if_pos hc.1]; exact getElem?_pos s m.toNat hc.2
          simp only [Sem.run_bind, asIntOf, Sem.run_pure, und_run hE w hi, Result.andThen_ok, hd, e]
        · exact (fail_run h).elim
      · exact (fail_run h).elim
    · exact (fail_run h).elim
  · exact (fail_run h).elim

theorem op_indexAddr (hE : EnvOk P E) (hR : Rel E.den N w0 ι σ w) (hτ : TR ι τ a) {t : Nat} {x y : Operand} (h : (ev τ x fun xv => ev τ y fun
    | .int _ n => match E.ty t with
      | some i => match i.d, xv with
        | .array len elem, .pointer (some ⟨b, k, some j⟩) => match E.ty elem with
          | some ei => if decide (0 ≤ n) && decide (n < len) then .ret (.pointer (some ⟨b, k, some (j + n.toNat * ei.size)⟩)) [] else .fail
          | none => .fail
        | .slice elem, .slice (some ⟨b, o, none⟩) len c => match E.ty elem with
          | some ei => if decide (0 ≤ n) && decide (n < len) then .get b fun ob => if ob.sz = ei.size then .ret (.pointer (some ⟨b, o + n.toNat, some 0⟩)) [] else .fail else .fail
          | none => .fail
        | _, _ => .fail
      | none => .fail
    | _ => .fail).run n σ = some (v, n', d)) : Good E.den N w0 ι σ n n' v d ((do pure (Next.value (← Instr.indexAt t (a.eval x) (a.eval y))) : Sem Next).run P w) := by
  obtain ⟨u, hu, h1⟩ := ev_run hτ h
  clear h
  obtain ⟨z, hz, h⟩ := ev_run hτ h1
  clear h1
  generalize a.eval x = x' at hu
  generalize a.eval y = y' at hz
  split at h
  · rename_i k m
    cases hz
    split at h
    · rename_i i hi
      split at h
      · rename_i len elem b k j hd
        split at h
        · rename_i ei hei
          split at h
          · rename_i hc
            simp only [Bool.and_eq_true, decide_eq_true_eq] at hc
            obtain ⟨rfl, rfl, rfl⟩ := ret_run h
            cases hu with
            | @ptr _ _ _ p hp =>
              refine good_of hR (v' := .pointer (some ⟨p.b, p.off + k * p.sz + j + m.toNat * ei.size, none⟩)) (VR_ptr hp rfl (by omega)) ?_
              unfold Instr.indexAt
              simp only [Sem.run_bind, asIntOf, Sem.run_pure, und_run hE w hi, Result.andThen_ok, hd, Instr.sureAddr, hc, and_self, if_true, size_run hE w hei, addr_add]
          · exact (fail_run h).elim
        · exact (fail_run h).elim
      · rename_i elem b o len c hd
        split at h
        · rename_i ei hei
          split at h
          · rename_i hc
            simp only [Bool.and_eq_true, decide_eq_true_eq] at hc
            obtain ⟨ob, ho, h⟩ := get_run h
            split at h
            · rename_i hsz
              obtain ⟨rfl, rfl, rfl⟩ := ret_run h
              obtain ⟨q, g1, g2, g3⟩ := hR.obj _ _ ho
              have hq : q.sz = ei.size := g3.sz.trans hsz
              have done : ∀ (c' : Nat), (Instr.indexAt t (.slice (some ⟨q.b, q.off + o * q.sz, none⟩) len c') (.int k m)).run P w = .ok (.pointer (some ⟨q.b, q.off + o * q.sz + m.toNat * ei.size, none⟩)) w := by
                intro c'
                unfold Instr.indexAt
                simp only [Sem.run_bind, asIntOf, Sem.run_pure, und_run hE w hi, Result.andThen_ok, hd, hc, and_self, if_true, size_run hE w hei, addr_add]
              cases hu with
              | slice hp hcc =>
                rw [hp] at g1; cases g1
                exact good_of hR (VR_ptr hp rfl (by rw [Nat.add_mul, hq]; omega)) (done _)
              | sliceC hp hcc =>
                rw [hp] at g1; cases g1
                exact good_of hR (VR_ptr hp rfl (by rw [Nat.add_mul, hq]; omega)) (done _)
              | sliceM hp hcc =>
                rw [hp] at g1; cases g1
                exact good_of hR (VR_ptr hp rfl (by rw [Nat.add_mul, hq]; omega)) (done _)
              | _ => omega
            · exact (fail_run h).elim
          · exact (fail_run h).elim
        · exact (fail_run h).elim
      · exact (fail_run h).elim
    · exact (fail_run h).elim
  · exact (fail_run h).elim

/-- What a slice shows, as memory has it. -/
inductive SR (ι : Inj) (o : AObj) (i off n c : Nat) : Value → Prop
  | at_ {p : Place} {c' : Nat} (hp : ι i = some p) (hc : off + n ≤ p.cap) (hcap : n ≤ c') (h0 : c = 0 → c' = p.cap - off) (h1 : c = 1 → c' = n) (h2 : c = 2 → c' = p.cap - off) : SR ι o i off n c (.slice (some ⟨p.b, p.off + off * p.sz, none⟩) n c')
  | zero {ad : Addr} (h0 : n = 0) (hz : c = 0 → ∃ p, ι i = some p ∧ p.cap ≤ off) (h1 : c < 4) : SR ι o i off n c (.slice (some ad) 0 0)
  | nil (h0 : n = 0) (h1 : c = 2 ∨ c = 3) : SR ι o i off n c (.slice none 0 0)
theorem slice_cases {i off n' c : Nat} {o : AObj} {v' : Value} (h : VR ι (.slice (some ⟨i, off, none⟩) n' c) v') : SR ι o i off n' c v' := by
  cases h with
  | slice hp hc => exact .at_ hp hc (by omega) (fun _ => rfl) (fun h => by cases h) (fun h => by cases h)
  | sliceC hp hc => exact .at_ hp hc (Nat.le_refl _) (fun h => by cases h) (fun _ => rfl) (fun h => by cases h)
  | sliceZ h hc => exact .zero rfl (fun _ => ⟨_, h, hc⟩) (by decide)
  | sliceZ1 => exact .zero rfl (fun h => by cases h) (by decide)
  | sliceM hp hc => exact .at_ hp hc (by omega) (fun h => by cases h) (fun h => by cases h) (fun _ => rfl)
  | sliceMZ h hc => exact .zero rfl (fun h => by cases h) (by decide)
  | sliceMN => exact .nil rfl (.inl rfl)
  | sliceE => exact .nil rfl (.inr rfl)
  | sliceE1 => exact .zero rfl (fun h => by cases h) (by decide)

/-- The flat cells of elements. -/
theorem flat_get {sz : Nat} : ∀ {es : List (List Value)}, (∀ e ∈ es, e.length = sz) → ∀ (k : Nat) (e : List Value) (j : Nat), es[k]? = some e → j < sz → es.flatten[k * sz + j]? = e[j]?
  | [], _, k, e, j, h, _ => by simp at h
  | e0 :: es, hl, 0, e, j, h, hj => by
    simp at h; subst h
    simp only [List.flatten_cons, Nat.zero_mul, Nat.zero_add]
    rw [List.getElem?_append_left (by rw [hl e0 (by simp)]; exact hj)]
  | e0 :: es, hl, k + 1, e, j, h, hj => by
    simp only [List.flatten_cons]
    have h0 := hl e0 (by simp)
    rw [List.getElem?_append_right (by rw [h0, Nat.add_mul]; omega), h0]
    have := flat_get (es := es) (fun e he => hl e (List.mem_cons_of_mem _ he)) k e j (by simpa using h) hj
    rw [← this]
    congr 1
    rw [Nat.add_mul]; omega
theorem flat_length {sz : Nat} : ∀ {es : List (List Value)}, (∀ e ∈ es, e.length = sz) → es.flatten.length = es.length * sz
  | [], _ => by simp
  | e :: es, h => by simp [flat_length (es := es) (fun x hx => h x (List.mem_cons_of_mem _ hx)), h e (by simp), Nat.add_mul, Nat.add_comm]
theorem flat_split {sz : Nat} (hs : 0 < sz) {es : List (List Value)} (h : ∀ e ∈ es, e.length = sz) {m : Nat} {v : Value} (hm : es.flatten[m]? = some v) : ∃ e, es[m / sz]? = some e ∧ e[m % sz]? = some v := by
  have hlt := (List.getElem?_eq_some_iff.1 hm).1
  rw [flat_length h] at hlt
  have hk : m / sz < es.length := by rw [Nat.div_lt_iff_lt_mul hs]; exact hlt
  refine ⟨es[m / sz], List.getElem?_eq_getElem hk, ?_⟩
  have := flat_get h (m / sz) _ (m % sz) (List.getElem?_eq_getElem hk) (Nat.mod_lt _ hs)
  rw [← this, Nat.mul_comm, Nat.div_add_mod, hm]

theorem elems_len {o : AObj} {p : Place} (hO : ObjR N ι o p w) {off m : Nat} : ∀ e ∈ (o.es.drop off).take m, e.length = o.sz := by
  intro e he
  have : e ∈ o.es := List.mem_of_mem_drop (List.mem_of_mem_take he)
  obtain ⟨k, hk⟩ := List.getElem?_of_mem this
  exact hO.len k e hk

/-- The cells of what a slice shows. -/
theorem row_of {o : AObj} {p : Place} (hO : ObjR N ι o p w) (off m : Nat) : ∃ c', VRs ι ((o.es.drop off).take m).flatten c' ∧ ∀ (q : Nat) (v' : Value), c'[q]? = some v' → w.cell? ((⟨p.b, p.off + off * p.sz, none⟩ : Addr).add q) = some v' := by
  refine cells_of (fun q v hv => ?_)
  obtain ⟨e, he, hj⟩ := flat_split hO.pos (elems_len hO) hv
  rw [List.getElem?_take] at he
  split at he
  · rw [List.getElem?_drop] at he
    obtain ⟨v', h1, h2, _⟩ := hO.cell _ e he _ v hj
    refine ⟨v', ?_, h2⟩
    rw [addr_add]
    rw [← h1]
    congr 2
    rw [Nat.add_mul, hO.sz]
    have := Nat.div_add_mod q o.sz
    rw [Nat.mul_comm] at this
    omega
  · cases he

/-- What 'seen' hands on is what the model's first cells are. -/
theorem seen_run {size : Nat} (hs : 0 < size) (hR : Rel E.den N w0 ι σ w) {x x' : Value} (hx : VR ι x x') {k : List (List Value) → T} {r : Value × Nat × Delta} (h : (seen size x k).run n σ = some r) :
    ∃ (xs : List (List Value)) (cs : List Value) (m : Nat), (k xs).run n σ = some r ∧ xs.length = m ∧ (Builtin.lenOf x').run P w = .ok m w ∧ (∀ e ∈ xs, e.length = size) ∧ VRs ι xs.flatten cs ∧ (∀ e ∈ xs, e.all oneB = true) ∧
      ∀ q, q ≤ m → ∀ w1 : World, (∀ b : Nat, w1.heap[b]? = w.heap[b]?) → (Builtin.firstCells size q x').run P w1 = .ok ⟨cs.take (q * size)⟩ w1 := by
  unfold seen at h
  split at h
  · cases hx
    exact ⟨[], [], 0, h, rfl, rfl, fun e he => by simp at he, .nil, fun e he => by simp at he, fun q hq w1 _ => by simp [Builtin.firstCells]⟩
  · rename_i i o m c
    split at h
    · rename_i h0
      subst h0
      refine ⟨[], [], 0, h, rfl, ?_, fun e he => by simp at he, .nil, fun e he => by simp at he, fun q hq w1 _ => ?_⟩
      · cases hx <;> rfl
      · have hq0 : q = 0 := by omega
        subst hq0
        cases hx <;> simp [Builtin.firstCells, loadCells, loadCellsFrom]
    · rename_i h0
      obtain ⟨ob, ho, h⟩ := get_run h
      split at h
      · rename_i hc
        obtain ⟨q0, g1, g2, g3⟩ := hR.obj _ _ ho
        obtain ⟨cs, h1, h2⟩ := row_of g3 o m
        have hel : ∀ e ∈ (ob.es.drop o).take m, e.length = size := fun e he => (elems_len g3 e he).trans hc.1
        have hcl : cs.length = m * size := by rw [← h1.length, flat_length hel, hc.2]
        have hone : ∀ e ∈ (ob.es.drop o).take m, e.all oneB = true := by
          intro e he
          have hm : e ∈ ob.es := List.mem_of_mem_drop (List.mem_of_mem_take he)
          obtain ⟨k', hk'⟩ := List.getElem?_of_mem hm
          rw [List.all_eq_true]
          intro y hy
          obtain ⟨j, hj⟩ := List.getElem?_of_mem hy
          obtain ⟨_, _, _, h3⟩ := g3.cell k' e hk' j y hj
          exact h3
        have fin : ∀ c', (Builtin.lenOf (.slice (some ⟨q0.b, q0.off + o * q0.sz, none⟩) m c')).run P w = .ok m w ∧ ∀ q, q ≤ m → ∀ w1 : World, (∀ b : Nat, w1.heap[b]? = w.heap[b]?) → (Builtin.firstCells size q (.slice (some ⟨q0.b, q0.off + o * q0.sz, none⟩) m c')).run P w1 = .ok ⟨cs.take (q * size)⟩ w1 := by
          intro c'
          refine ⟨rfl, fun q hq w1 hw1 => ?_⟩
          have hle : q * size ≤ cs.length := by rw [hcl]; exact Nat.mul_le_mul_right _ hq
          have := run_loadCells_list (P := P) w1 ⟨q0.b, q0.off + o * q0.sz, none⟩ (cs.take (q * size)) (fun j v hv => by
            rw [List.getElem?_take] at hv
            split at hv
            · have h3 := h2 j v hv
              rw [addr_add] at h3 ⊢
              rw [cell_block (hw1 q0.b)]
              exact h3
            · cases hv)
          rw [List.length_take, Nat.min_eq_left hle] at this
          exact this
        refine ⟨_, cs, m, h, hc.2, ?_, hel, h1, hone, ?_⟩
        · cases hx with
          | slice hp _ => rw [hp] at g1; cases g1; exact (fin _).1
          | sliceC hp _ => rw [hp] at g1; cases g1; exact (fin _).1
          | sliceM hp _ => rw [hp] at g1; cases g1; exact (fin _).1
          | _ => exact absurd rfl h0
        · cases hx with
          | slice hp _ => rw [hp] at g1; cases g1; exact (fin _).2
          | sliceC hp _ => rw [hp] at g1; cases g1; exact (fin _).2
          | sliceM hp _ => rw [hp] at g1; cases g1; exact (fin _).2
          | _ => exact absurd rfl h0
      · exact (fail_run h).elim
  · rename_i s
    split at h
    · rename_i h1
      subst h1
      cases hx
      have hfl : (s.data.toList.map fun b => [Value.int .u8 b.toNat]).flatten = s.data.toList.map fun b => Value.int .u8 b.toNat := by
        generalize s.data.toList = l
        induction l with
        | nil => rfl
        | cons x l ih => simp [ih]
      refine ⟨_, s.data.toList.map fun b => Value.int .u8 b.toNat, s.size, h, by simp, rfl, fun e he => ?_, ?_, fun e he => ?_, fun q hq w1 _ => ?_⟩
      · simp at he; obtain ⟨b, _, rfl⟩ := he; rfl
      · rw [hfl]
        generalize s.data.toList = l
        induction l with
        | nil => exact .nil
        | cons x l ih => exact .cons (.int _ _) ih
      · simp at he; obtain ⟨b, _, rfl⟩ := he; rfl
      · simp only [Builtin.firstCells, Sem.run_pure, Nat.mul_one]
        congr 1
        apply Array.ext'
        simp [ByteArray.data_extract, List.map_take]
    · exact (fail_run h).elim
  · exact (fail_run h).elim
end
end Go.Proofs.YtgajcmanompmcaaV
