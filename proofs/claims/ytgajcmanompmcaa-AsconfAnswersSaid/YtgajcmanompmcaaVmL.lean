/- The abstract machine: builtins, conversions; all operations. -/
import Derived.Test.YtgajcmanompmcaaVmK
set_option linter.unusedVariables false
set_option linter.unusedSimpArgs false
namespace Go.Proofs.YtgajcmanompmcaaV
open Go.RowKit
section
variable {P : Program} {E : Env} {τ : Nat → Value} {a : Act} {ι : Inj} {σ : Store} {N n n' : Nat} {w0 w : World} {v : Value} {d : Delta}

theorem flatten_take {sz : Nat} : ∀ {es : List (List Value)} (q : Nat), (∀ e ∈ es, e.length = sz) → (es.take q).flatten = es.flatten.take (q * sz)
  | [], q, _ => by simp
  | e :: es, 0, _ => by simp
  | e :: es, q + 1, h => by
    have h0 := h e (by simp)
    simp only [List.take_succ_cons, List.flatten_cons]
    have e1 : (q + 1) * sz = sz + q * sz := by rw [Nat.add_mul]; omega
    rw [flatten_take q (fun x hx => h x (List.mem_cons_of_mem _ hx)), e1, List.take_append, List.take_of_length_le (l := e) (by omega), h0, Nat.add_sub_cancel_left]

theorem copy_run (hE : EnvOk P E) (hR : Rel E.den N w0 ι σ w) {t elem ty : Nat} {ti ei : TI} {ats : Array TypeId} {args : Array Value} {s s' x' : Value} (ht : E.ty t = some ti) (hd : ti.d = .slice elem) (he : E.ty elem = some ei)
    (h0 : ats[0]? = some t) (h2 : args[0]? = some s') (h3 : args[1]? = some x') (hs : VR ι s s') {xs : List (List Value)} {cs : List Value} {m : Nat} (hm : xs.length = m) (hlen : (Builtin.lenOf x').run P w = .ok m w) (hxl : ∀ e ∈ xs, e.length = ei.size) (hcs : VRs ι xs.flatten cs) (hone : ∀ e ∈ xs, e.all oneB = true)
    (hfc : ∀ q, q ≤ m → (Builtin.firstCells ei.size q x').run P w = .ok ⟨cs.take (q * ei.size)⟩ w) (h : (acopy ei.size s m xs).run n σ = some (v, n', d)) :
    GoodV E.den N w0 ι σ n n' v d ((Builtin.copy_ ats ty args).run P w) := by
  have head : ∀ (base : Option Addr) (dLen dCap : Nat), s' = .slice base dLen dCap → (Builtin.copy_ ats ty args).run P w = ((do
      if let some a := base then storeCells a (cs.take (min m dLen * ei.size))
      pure (goInt (min m dLen : Nat)) : Sem Value)).run P w := by
    intro base dLen dCap hs'
    subst hs'
    unfold Builtin.copy_
    simp only [h0, h2, h3, Sem.run_bind, und_run hE w ht, hd, Result.andThen_ok, size_run hE w he, Sem.run_pure, hlen]
    have e1 := hfc (min m dLen) (Nat.min_le_left _ _)
    have e2 : Nat.min m dLen = min m dLen := rfl
    rw [e2]
    simp only [e1, Result.andThen_ok]
    cases base <;> rfl
  unfold acopy at h
  split at h
  · cases hs
    obtain ⟨rfl, rfl, rfl⟩ := ret_run h
    rw [head none 0 0 rfl]
    simp only [Nat.min_zero, goInt]
    exact goodV_same hR (.int _ _)
  · rename_i j o len c
    have hS0 : ∀ ob, SR ι ob j o len c s' := fun ob => slice_cases hs
    split at h
    · rename_i hx0
      obtain ⟨rfl, rfl, rfl⟩ := ret_run h
      have hx1 : (xs.take (min m len)) = [] := by simpa using hx0
      have hmin : min m len = 0 := by
        have := congrArg List.length hx1
        simp [hm] at this
        omega
      have fin : ∀ (ad : Addr) (c' : Nat), s' = .slice (some ad) len c' → GoodV E.den N w0 ι σ n' n' (.int .i64 (min m len : Nat)) [] ((Builtin.copy_ ats ty args).run P w) := by
        intro ad c' hs'
        rw [head _ _ _ hs', hmin]
        simp only [Nat.zero_mul, List.take_zero, storeCells, Sem.run_bind, Sem.run_pure, Result.andThen_ok]
        exact goodV_same hR (.int _ _)
      cases hS0 default with
      | nil e0 _ =>
        subst e0
        rw [head none 0 0 rfl]
        simp only [Nat.min_zero, goInt]
        exact goodV_same hR (.int _ _)
      | at_ hp hc hcc e0 e1 => exact fin _ _ rfl
      | zero e0 ez e1 => subst e0; exact fin _ _ rfl
    · rename_i hx0
      obtain ⟨ob, ho, hx⟩ := get_run h
      clear h
      have h := hx
      clear hx
      obtain ⟨p, g1, g2, g3⟩ := hR.obj _ _ ho
      split at h
      · exact (fail_run h).elim
      · rename_i hc
        simp only [Bool.or_eq_true, decide_eq_true_eq, not_or, Decidable.not_not, Bool.not_eq_true', Bool.not_eq_false, Nat.not_lt] at hc
        obtain ⟨⟨⟨q1, q2⟩, q3⟩, q4⟩ := hc
        have q1' : ob.sz = ei.size := by simpa using q1
        have q2' : ob.w = true := by simpa using q2
        have q3' : o + len ≤ ob.es.length := by simpa using q3
        obtain ⟨rfl, rfl, rfl⟩ := ret_run h
        have hpos : 0 < len := by
          cases len with
          | zero => simp at hx0
          | succ k => omega
        have htl : (xs.take (min m len)).length = min m len := by simpa using q4
        have hf : VRs ι (xs.take (min m len)).flatten (cs.take (min m len * ei.size)) := by
          rw [flatten_take _ hxl]; exact hcs.take _
        obtain ⟨e1, e2⟩ := write_run (P := P) (o := o) (xs := xs.take (min m len)) hR ho g1 g3 q2' (by have := g3.cap; omega) (fun e he => by rw [q1']; exact hxl e (List.mem_of_mem_take he)) (fun e he => hone e (List.mem_of_mem_take he)) hf (by rw [htl]; omega)
        cases hS0 ob with
        | at_ hp hcc' hcc e0 _ =>
          rw [g1] at hp; cases hp
          rw [head _ _ _ rfl]
          simp only [Sem.run_bind, e1, Result.andThen_ok, Sem.run_pure]
          exact ⟨_, _, ι, rfl, Inj.le_refl _, fun i h => absurd rfl h, e2, .int _ _⟩
        | nil e0 _ => omega
        | zero e0 ez _ => omega
  · exact (fail_run h).elim

theorem zeroCells_list {i : TI} (hE : EnvOk P E) {t : Nat} (hi : E.ty t = some i) (m : Nat) : VRs ι (List.replicate m (cellsL i.zero)).flatten (Builtin.zeroCells i.zero.cells m).toList := by
  obtain ⟨hz, hl, h1⟩ := hE.zero _ _ hi
  have hsz : i.zero.cells.size = i.size := by unfold cellsL at hl; simpa using hl
  have hel : ∀ e ∈ List.replicate m (cellsL i.zero), e.length = i.size := fun e he => by
    rw [(List.mem_replicate.1 he).2]; exact hl
  refine VRs.of_get ?_ (fun j v hv => ?_)
  · rw [flat_length hel]; simp [Builtin.zeroCells, hsz]
  · have hjl := (List.getElem?_eq_some_iff.1 hv).1
    rw [flat_length hel, List.length_replicate] at hjl
    have hpos : 0 < i.size := by
      rcases Nat.eq_zero_or_pos i.size with h | h
      · rw [h] at hjl; omega
      · exact h
    obtain ⟨e, he, hj⟩ := flat_split hpos hel hv
    rw [List.getElem?_replicate] at he
    split at he
    · cases he
      obtain ⟨v', g1, g2⟩ := (hz ι).cells.get _ _ hj
      refine ⟨v', ?_, g2⟩
      rw [← g1]
      have hj2 : j < m * i.zero.cells.size := by rw [hsz]; exact hjl
      rw [Array.getElem?_toList]
      exact (zeros_get i.zero.cells (m * i.zero.cells.size) j (by omega) hj2).trans (by rw [hsz]; simp)
    · cases he

theorem append_zrun (hE : EnvOk P E) (hR : Rel E.den N w0 ι σ w) (hn : ∀ i, n ≤ i → i < n' → ι i = none) {t u elem ty : Nat} {ti ui ei : TI} {ats : Array TypeId} {args : Array Value} {s s' : Value} {kk k0 : IntKind} {kv : Int} (ht : E.ty t = some ti) (hd : ti.d = .slice elem) (hu : E.ty u = some ui) (hud : ui.d = .int kk) (he : E.ty elem = some ei)
    (h0 : ats[0]? = some t) (h1 : ats[1]? = some u) (h2 : args[0]? = some s') (h3 : args[1]? = some (.int k0 kv)) (hs : VR ι s s') (hz : 0 < ei.size) (hk0 : 0 ≤ kv) (hsm0 : small kv.toNat ei.bytes = true) (h : (aappend elem ei s (List.replicate kv.toNat (cellsL ei.zero))).run n σ = some (v, n', d)) :
    GoodV E.den N w0 ι σ n n' v d ((Builtin.append_ ats ty args).run P w) := by
  obtain ⟨hz1, hz2, hz3⟩ := hE.zero _ _ he
  have hzsz : ei.zero.cells.size = ei.size := by unfold cellsL at hz2; simpa using hz2
  obtain ⟨_, inf2, i1, i2, i3, i4⟩ := hE.ty _ _ he
  have htyp : ∀ w1 : World, (typeInfo elem).run P w1 = .ok inf2 w1 := fun w1 => by simp [typeInfo, i1]
  simp only [small, Bool.and_eq_true, decide_eq_true_eq] at hsm0
  generalize hm : kv.toNat = m at *
  have hkm : kv = (m : Nat) := by omega
  subst hkm
  have hw64 : IntKind.i64.wrap ((m : Nat) : Int) = ((m : Nat) : Int) := by rw [IntKind.wrap_i64]; omega
  have hb48 : ¬ ((m : Nat) : Int) * ((inf2.bytes : Nat) : Int) > 2 ^ 48 := by
    rw [i4]
    have h1 : m * ei.bytes ≤ 1073741824 * 65536 := Nat.mul_le_mul hsm0.1 hsm0.2
    have h2 : ((m * ei.bytes : Nat) : Int) ≤ ((1073741824 * 65536 : Nat) : Int) := Int.ofNat_le.2 h1
    rw [Int.natCast_mul] at h2
    have h3 : ((1073741824 * 65536 : Nat) : Int) ≤ 2 ^ 48 := by decide
    omega
  have hneg : ¬ ((m : Nat) : Int) < 0 := by omega
  have happ : ∀ w1 : World, ((if m * ei.size = 0 then (pure #[] : Sem (Array Value)) else do pure (Builtin.zeroCells (← zeroValue elem).cells m))).run P w1 = .ok (Builtin.zeroCells ei.zero.cells m) w1 := fun w1 => by
    split
    · rename_i h0
      have : m = 0 := by rcases Nat.mul_eq_zero.1 h0 with h | h <;> omega
      subst this
      simp [Builtin.zeroCells]
    · simp only [Sem.run_bind, zero_run hE _ he, Result.andThen_ok, Sem.run_pure]
  refine append_core hE hR hn (x' := .int k0 ((m : Nat) : Int)) (m := m) (cs := (Builtin.zeroCells ei.zero.cells m).toList) ht hd hu he h0 h1 h2 h3 hs List.length_replicate (fun e he' => by rw [(List.mem_replicate.1 he').2]; exact hz2) (zeroCells_list hE he m) (fun e he' => by rw [(List.mem_replicate.1 he').2]; exact hz3) ?_ ?_ h
  · intro base sLen sCap hs' hle
    subst hs'
    unfold Builtin.append_
    simp only [h0, h1, h2, h3, Sem.run_bind, und_run hE w ht, hd, und_run hE w hu, hud, Result.andThen_ok, size_run hE w he, Sem.run_pure, if_true, asInt, asIntOf, hw64, hneg, if_false, htyp, hb48, Int.toNat_natCast, hle, Bool.not_true, Bool.false_eq_true, happ]
    cases base <;> rfl
  · intro base sLen sCap oc hs' hlt hsm hold
    subst hs'
    simp only [small, Bool.and_eq_true, decide_eq_true_eq] at hsm
    have hnc := nextcap_le hlt
    have hbig : ¬ Builtin.nextslicecap (sLen + m) sCap * inf2.bytes > 2 ^ 48 := by
      rw [i4]
      have h1 : Builtin.nextslicecap (sLen + m) sCap * ei.bytes ≤ (2 * 1073741824 + 192) * 65536 := Nat.mul_le_mul (by omega) hsm.2
      have : (2 * 1073741824 + 192) * 65536 ≤ 2 ^ 48 := by decide
      omega
    have hmax : ¬ ((sLen + m : Nat) : Int) > IntKind.i64.max := by
      simp only [IntKind.max, IntKind.signed, IntKind.bits]
      simp
      omega
    let q : Question := .appendCap (sLen + m) sCap elem
    let newCap := q.cut (w.tape w.drawn q)
    have hnew : sLen + m ≤ newCap := cut_ge _ _ _ _
    refine ⟨newCap, _, hnew, rfl, Builtin.zeroCells ei.zero.cells (newCap - (sLen + m)), by simp [Builtin.zeroCells, hzsz], ?_⟩
    unfold Builtin.append_
    have hnle : ¬ sLen + m ≤ sCap := by omega
    have hw1 : ∀ b : Nat, ({ w with drawn := w.drawn + 1 } : World).heap[b]? = w.heap[b]? := fun _ => rfl
    have e1 := hold { w with drawn := w.drawn + 1 } hw1
    simp only [h0, h1, h2, h3, Sem.run_bind, und_run hE w ht, hd, und_run hE w hu, hud, Result.andThen_ok, size_run hE w he, Sem.run_pure, if_true, asInt, asIntOf, hw64, hneg, if_false, htyp, hb48, Int.toNat_natCast, hnle, hmax, false_and, hbig, Bool.not_true, Bool.false_eq_true, happ, run_choose, run_askRoom, zero_run hE _ he, newRow, run_newObj]
    rw [if_neg (by rw [show (Question.appendCap (sLen + m) sCap elem).forced = false from rfl]; simp)]
    simp only [Result.andThen_ok, e1, happ, if_true, Sem.run_bind, zero_run hE _ he, Sem.run_pure, htyp, run_askRoom, run_newObj]
    rfl

theorem clear_run (hE : EnvOk P E) (hR : Rel E.den N w0 ι σ w) {t elem ty : Nat} {ti ei : TI} {ats : Array TypeId} {args : Array Value} {s s' : Value} (ht : E.ty t = some ti) (hd : ti.d = .slice elem) (he : E.ty elem = some ei)
    (h0 : ats[0]? = some t) (h2 : args[0]? = some s') (hs : VR ι s s') (h : (aclear ei s).run n σ = some (v, n', d)) :
    GoodV E.den N w0 ι σ n n' v d ((Builtin.clear_ ats ty args).run P w) := by
  unfold aclear at h
  split at h
  · obtain ⟨rfl, rfl, rfl⟩ := ret_run h
    cases hs
    unfold Builtin.clear_
    simp only [h0, h2, Sem.run_bind, und_run hE w ht, hd, Result.andThen_ok, Sem.run_pure]
    exact goodV_same hR (.tuple .nil)
  · obtain ⟨rfl, rfl, rfl⟩ := ret_run h
    cases hs
    unfold Builtin.clear_
    simp only [h0, h2, Sem.run_bind, und_run hE w ht, hd, Result.andThen_ok, Sem.run_pure]
    exact goodV_same hR (.tuple .nil)
  · rename_i j o len c
    have hS0 : ∀ ob, SR ι ob j o len c s' := fun ob => slice_cases hs
    split at h
    · rename_i hl0
      subst hl0
      obtain ⟨rfl, rfl, rfl⟩ := ret_run h
      unfold Builtin.clear_
      cases hS0 default with
      | nil _ _ =>
        simp only [h0, h2, Sem.run_bind, und_run hE w ht, hd, Result.andThen_ok, Sem.run_pure]
        exact goodV_same hR (.tuple .nil)
      | at_ hp hc hcc e0 e1 =>
        simp only [h0, h2, Sem.run_bind, und_run hE w ht, hd, Result.andThen_ok, Sem.run_pure]
        exact goodV_same hR (.tuple .nil)
      | zero e0 ez e1 =>
        simp only [h0, h2, Sem.run_bind, und_run hE w ht, hd, Result.andThen_ok, Sem.run_pure]
        exact goodV_same hR (.tuple .nil)
    · rename_i hl0
      obtain ⟨ob, ho, hx⟩ := get_run h
      clear h
      have h := hx
      clear hx
      obtain ⟨p, g1, g2, g3⟩ := hR.obj _ _ ho
      split at h
      · exact (fail_run h).elim
      · rename_i hc
        simp only [Bool.or_eq_true, decide_eq_true_eq, not_or, Decidable.not_not, Bool.not_eq_true', Bool.not_eq_false, Nat.not_lt] at hc
        obtain ⟨⟨q1, q2⟩, q3⟩ := hc
        have q1' : ob.sz = ei.size := by simpa using q1
        have q2' : ob.w = true := by simpa using q2
        have q3' : o + len ≤ ob.es.length := by simpa using q3
        obtain ⟨rfl, rfl, rfl⟩ := ret_run h
        obtain ⟨hz, hzl, hz1⟩ := hE.zero _ _ he
        obtain ⟨e1, e2⟩ := write_run (P := P) (o := o) (xs := List.replicate len (cellsL ei.zero)) hR ho g1 g3 q2' (by have := g3.cap; omega) (fun e he => by rw [q1', (List.mem_replicate.1 he).2]; exact hzl) (fun e he => by rw [(List.mem_replicate.1 he).2]; exact hz1) (zeroCells_list hE he len) (by simpa using q3')
        cases hS0 ob with
        | at_ hp hcc' hcc e0 _ =>
          rw [g1] at hp; cases hp
          unfold Builtin.clear_
          obtain ⟨len', rfl⟩ : ∃ k, len = k + 1 := ⟨len - 1, by omega⟩
          simp only [h0, h2, Sem.run_bind, und_run hE w ht, hd, Result.andThen_ok, zero_run hE w he, e1, Sem.run_pure]
          exact ⟨_, _, ι, rfl, Inj.le_refl _, fun i h => absurd rfl h, e2, .tuple .nil⟩
        | nil e0 _ => exact absurd e0 hl0
        | zero e0 ez _ => exact absurd e0 hl0
  · exact (fail_run h).elim

theorem modify_push {α : Type} (xs : Array α) (x : α) (f : α → α) : (xs.push x).modify xs.size f = xs.push (f x) := by
  apply Array.ext
  · simp
  · intro i h1 h2
    simp [Array.getElem_modify]
    by_cases h : i = xs.size
    · subst h; simp
    · have : i < xs.size := by simp at h1; omega
      rw [if_neg (fun e => h e.symm)]
      simp [Array.getElem_push, this]

theorem op_convert (hE : EnvOk P E) (hR : Rel E.den N w0 ι σ w) (hτ : TR ι τ a) (hn : ∀ i, n ≤ i → i < n' → ι i = none) {src dst : Nat} {x : Operand} (h : (ev τ x fun v => match E.ty src, E.ty dst with
    | some s, some t => match s.d, t.d, v with
      | _, .int k, .chan (some c) => orFail (E.cvt k (.chan (some c)))
      | _, .int k, .int _ n => .ret (.int k (k.wrap n)) []
      | .string, .string, .string b => .ret (.string b) []
      | _, .slice e, .string b => match E.ty e with
        | some ei => match ei.d with
          | .int .u8 => .fresh fun n => .ret (.slice (some ⟨n, 0, none⟩) b.size 0) [(n, some ⟨b.data.toList.map fun c => [.int .u8 c.toNat], 1, e, true⟩)]
          | _ => .fail
        | none => .fail
      | .slice e, .string, .slice a len c => match E.ty e with
        | some ei => match ei.d with
          | .int .u8 => astr (.slice a len c)
          | _ => .fail
        | none => .fail
      | _, _, _ => .fail
    | _, _ => .fail).run n σ = some (v, n', d)) : Good E.den N w0 ι σ n n' v d ((do pure (Next.value (← convert src dst (a.eval x))) : Sem Next).run P w) := by
  obtain ⟨u, hu, h1⟩ := ev_run hτ h
  clear h
  have h := h1
  clear h1
  generalize a.eval x = x' at hu
  split at h
  · rename_i s t hs ht
    have us := und_run hE w hs
    have ut := und_run hE w ht
    refine GoodV.good ?_
    unfold convert
    simp only [Sem.run_bind, us, ut, Result.andThen_ok]
    split at h
    · rename_i k c hk
      unfold orFail at h
      split at h
      · rename_i z hz
        obtain ⟨rfl, rfl, rfl⟩ := ret_run h
        obtain ⟨k1, m, v1, d1, d2, d3⟩ := hE.cvt _ _ _ hz
        have e1 := d1.same hR.den hu
        subst e1
        subst d3
        rw [hk]
        cases s.d <;> exact goodV_same hR (d2.VR hR.den)
      · exact (fail_run h).elim
    · rename_i k k2 m hk
      obtain ⟨rfl, rfl, rfl⟩ := ret_run h
      cases hu
      rw [hk]
      have : (match s.d, TypeDesc.int k, Value.int k2 m with
        | _, .int k, .int _ n => Conv.intToInt k n
        | _, _, _ => unsupported (.noEntry "")) = Conv.intToInt k m := rfl
      cases s.d <;> exact goodV_same hR (.int _ _)
    · rename_i b hs' ht'
      obtain ⟨rfl, rfl, rfl⟩ := ret_run h
      cases hu
      rw [hs', ht']
      exact goodV_same hR (.str _)
    · rename_i e b ht'
      split at h
      · rename_i ei hei
        split at h
        · rename_i hd8
          obtain ⟨rfl, rfl, rfl⟩ := ret_run (fresh_run h)
          cases hu
          rw [ht']
          let q : Question := .appendCap b.size 0 e
          let cap := q.cut (w.tape w.drawn q)
          have hcap : b.size ≤ cap := cut_ge _ _ _ _
          have hrun : (Conv.stringToBytes e b).run P w = .ok (.slice (some ⟨w.heap.size, 0, none⟩) b.size cap) { w with heap := w.heap.push (.cells ((b.data.map fun c => Value.int .u8 c.toNat) ++ Array.replicate (cap - b.size) (.int .u8 0)) e (cap, cap + 1)), drawn := w.drawn + 1 } := by
            unfold Conv.stringToBytes
            simp only [Sem.run_bind, run_choose]
            rw [if_neg (by rw [show (Question.appendCap b.size 0 e).forced = false from rfl]; simp)]
            simp only [Result.andThen_ok, newRow, Sem.run_bind, run_newObj, Sem.run_pure, markStringish, run_shape]
            have hsz : ((b.data.map fun c => Value.int .u8 c.toNat) ++ Array.replicate (cap - b.size) (Value.int .u8 0)).size = cap := by
              simp
              show b.size + (cap - b.size) = cap
              omega
            have hshape : ({ w with heap := w.heap.push (.cells ((b.data.map fun c => Value.int .u8 c.toNat) ++ Array.replicate (cap - b.size) (.int .u8 0)) e (0, 0)), drawn := w.drawn + 1 } : World).shape? w.heap.size = some (e, cap) := by
              simp only [World.shape?, Array.getElem?_push, if_true]
              rw [hsz]
            show ((Sem.run P (match ({ w with heap := w.heap.push (.cells ((b.data.map fun c => Value.int .u8 c.toNat) ++ Array.replicate (cap - b.size) (.int .u8 0)) e (0, 0)), drawn := w.drawn + 1 } : World).shape? w.heap.size with
              | some (_, n) => freeze { block := w.heap.size, off := n } 1
              | _ => pure ()) _).andThen _) = _
            rw [hshape]
            simp only [run_freeze, Result.andThen_ok]
            unfold World.freeze
            simp only [Nat.one_ne_zero, if_false, modify_push]
            rfl
          have hrun' : ∀ z, (match z, TypeDesc.slice e, Value.string b with
            | _, .slice e, .string s => (do
                match ← underlying e with
                | .int .u8 => Conv.stringToBytes e s
                | .int .i32 => Conv.stringToRunes e s
                | _ => stuck "" : Sem Value)
            | (_ : TypeDesc), _, _ => stuck "").run P w = (Conv.stringToBytes e b).run P w := by
            intro z
            simp only [Sem.run_bind, und_run hE w hei, hd8, Result.andThen_ok]
          have fin : GoodV E.den N w0 ι σ n (n + 1) (.slice (some ⟨n, 0, none⟩) b.size 0) [(n, some ⟨b.data.toList.map fun c => [.int .u8 c.toNat], 1, e, true⟩)] ((Conv.stringToBytes e b).run P w) := by
            rw [hrun]
            have hfr := hn n (Nat.le_refl _) (by omega)
            have hlen : (b.data.toList.map fun c => [Value.int .u8 (c.toNat : Int)]).length = b.size := by simp
            refine ⟨_, _, ι.set n ⟨w.heap.size, 0, 1, cap, none⟩, rfl, Inj.set_le hfr _, fun i => Inj.set_only i, rel_new (p := ⟨w.heap.size, 0, 1, cap, none⟩) (o := ⟨b.data.toList.map fun c => [.int .u8 c.toNat], 1, e, true⟩) hR hfr rfl rfl (by simp) (by show List.length _ ≤ cap; rw [hlen]; exact hcap) (fun k el hk => ?_) (fun k el hk j vv hv => ?_) ?_ ⟨fun k hk => ?_, fun h => absurd h (by show ¬ 1 < 1; decide)⟩ _, VR_row ι n ⟨w.heap.size, 0, 1, cap, none⟩ hcap rfl⟩
            · have := List.mem_of_getElem? hk
              simp at this
              obtain ⟨c, _, rfl⟩ := this
              rfl
            · have hkl : k < b.size := by rw [← hlen]; exact (List.getElem?_eq_some_iff.1 hk).1
              have hkb : k < b.data.size := hkl
              simp only [List.getElem?_map] at hk
              rw [show b.data.toList[k]? = some b.data[k] by simp [hkb]] at hk
              simp at hk
              subst hk
              cases j with
              | succ j => simp at hv
              | zero =>
                simp at hv
                subst hv
                refine ⟨_, ?_, .int _ _, rfl⟩
                have h_ : k < (List.map (fun (c : UInt8) => Value.int .u8 (c.toNat : Int)) b.data.toList).length := by simpa using hkb
                have h2_ : (List.map (fun (c : UInt8) => Value.int .u8 (c.toNat : Int)) b.data.toList ++ List.replicate (cap - b.size) (Value.int .u8 0))[k]? = some (Value.int .u8 (b.data[k].toNat : Int)) := by
                  rw [List.getElem?_append_left h_, List.getElem?_map]
                  simp
                  exact ⟨b.data[k], by simp [hkb], rfl⟩
                simpa using h2_
            · simp
              show cap ≤ b.size + (cap - b.size)
              omega
            · simp at hk
              have : k < b.size + (cap - b.size) := hk
              simp
              omega
          cases s.d <;> (simp only [Sem.run_bind, und_run hE w hei, hd8, Result.andThen_ok]; exact fin)
        · exact (fail_run h).elim
      · exact (fail_run h).elim
    · rename_i e ad len c hs' ht'
      split at h
      · rename_i ei hei
        split at h
        · rename_i hd8
          obtain ⟨rfl, rfl, s0, rfl, hr⟩ := astr_run (P := P) hR hu h
          rw [hs', ht']
          have hx : ∃ a' l' c', x' = .slice a' l' c' := by cases hu <;> exact ⟨_, _, _, rfl⟩
          obtain ⟨a', l', c', rfl⟩ := hx
          simp only [Sem.run_bind, und_run hE w hei, hd8, Result.andThen_ok]
          rw [hr]
          exact goodV_same hR (.str _)
        · exact (fail_run h).elim
      · exact (fail_run h).elim
    · exact (fail_run h).elim
  · exact (fail_run h).elim

theorem min_go : ∀ {l l' : List Value} {k : IntKind} {m : Int} {r : Value}, VRs ι l l' → amin.go .lss (.int k m) l = some r → ∃ k' m', r = .int k' m' ∧ (l'.foldlM Builtin.min2 (.int k m)).run P w = .ok r w
  | [], _, k, m, r, .nil, h => by
    simp [amin.go] at h; subst h; exact ⟨k, m, rfl, rfl⟩
  | y :: l, _, k, m, r, .cons (v' := y') hy hs, h => by
    unfold amin.go at h
    split at h
    · rename_i k1 a1 k2 b1 e
      cases e
      cases hy
      obtain ⟨k', m', h1, h2⟩ := min_go hs h
      refine ⟨k', m', h1, ?_⟩
      simp only [List.foldlM_cons, Sem.run_bind, Builtin.min2, Sem.run_pure, Result.andThen_ok]
      simp only [if_true, decide_eq_true_eq] at h2
      exact h2
    · cases h
theorem max_go : ∀ {l l' : List Value} {k : IntKind} {m : Int} {r : Value}, VRs ι l l' → amin.go .gtr (.int k m) l = some r → ∃ k' m', r = .int k' m' ∧ (l'.foldlM Builtin.max2 (.int k m)).run P w = .ok r w
  | [], _, k, m, r, .nil, h => by
    simp [amin.go] at h; subst h; exact ⟨k, m, rfl, rfl⟩
  | y :: l, _, k, m, r, .cons (v' := y') hy hs, h => by
    unfold amin.go at h
    split at h
    · rename_i k1 a1 k2 b1 e
      cases e
      cases hy
      obtain ⟨k', m', h1, h2⟩ := max_go hs h
      refine ⟨k', m', h1, ?_⟩
      simp only [List.foldlM_cons, Sem.run_bind, Builtin.max2, Sem.run_pure, Result.andThen_ok]
      simp only [reduceCtorEq, if_false, decide_eq_true_eq] at h2
      exact h2
    · cases h
theorem amin_first {op : BinOp} {l : List Value} {r : Value} (h : amin op l = some r) : (∃ k m l', l = .int k m :: l') ∨ ∃ x, l = [x] := by
  cases l with
  | nil => simp [amin] at h
  | cons x l =>
    cases l with
    | nil => exact .inr ⟨x, rfl⟩
    | cons y l =>
      simp only [amin] at h
      unfold amin.go at h
      split at h
      · rename_i e; exact .inl ⟨_, _, _, rfl⟩
      · cases h

theorem lenOf_world {x : Value} {m : Nat} (h : (Builtin.lenOf x).run P w = .ok m w) : True := trivial

theorem op_builtin (hE : EnvOk P E) (hR : Rel E.den N w0 ι σ w) (hn : ∀ i, n ≤ i → i < n' → ι i = none) {b : Builtin} {ats : Array TypeId} {ty : TypeId} {consts : Array Bool} {args args' : List Value} (ha : VRs ι args args') (h : (abuiltin E b ats.toList args).run n σ = some (v, n', d)) :
    Good E.den N w0 ι σ n n' v d ((builtin b ats ty consts ⟨args'⟩).run P w) := by
  have g0 : ∀ {x : Nat} {r : List Nat}, ats.toList = x :: r → ats[0]? = some x := fun e => by
    rw [← Array.getElem?_toList, e]; rfl
  have g1 : ∀ {x y : Nat} {r : List Nat}, ats.toList = x :: y :: r → ats[1]? = some y := fun e => by
    rw [← Array.getElem?_toList, e]; rfl
  unfold abuiltin at h
  split at h
  · -- len
    rename_i t _ x _ hats
    cases ha with | @cons _ x' _ l' hx hs =>
    refine GoodV.good (S := Builtin.len_ ats ty ⟨x' :: l'⟩) ?_
    split at h
    · rename_i i hi
      unfold Builtin.len_
      simp only [g0 hats, List.getElem?_toArray, List.getElem?_cons_zero, Sem.run_bind, und_run hE w hi, Result.andThen_ok]
      split at h
      · rename_i s hd
        obtain ⟨rfl, rfl, rfl⟩ := ret_run h
        cases hx
        simp only [hd]
        exact goodV_same hR (.int _ _)
      · rename_i m e _ hd
        obtain ⟨rfl, rfl, rfl⟩ := ret_run h
        simp only [hd]
        exact goodV_same hR (.int _ _)
      · rename_i e a m c hd
        obtain ⟨rfl, rfl, rfl⟩ := ret_run h
        cases hx <;> (simp only [hd]; exact goodV_same hR (.int _ _))
      · rename_i e a hd
        obtain ⟨rfl, rfl, rfl⟩ := ret_run h
        cases hx
        simp only [hd]
        exact goodV_same hR (.int _ _)
      · exact (fail_run h).elim
    · exact (fail_run h).elim
  · -- min
    refine GoodV.good (S := Builtin.min_ ats ty ⟨args'⟩) ?_
    unfold orFail at h
    split at h
    · rename_i r hr
      obtain ⟨rfl, rfl, rfl⟩ := ret_run h
      rcases amin_first hr with ⟨k, m, l, rfl⟩ | ⟨x, rfl⟩
      · cases ha with | @cons _ x' _ l' hx hs =>
        cases hx
        obtain ⟨k', m', h1, h2⟩ := min_go (P := P) (w := w) hs hr
        unfold Builtin.min_
        simp only
        rw [h2, h1]
        exact goodV_same hR (.int _ _)
      · cases ha with | @cons _ x' _ l' hx hs =>
        cases hs
        simp [amin, amin.go] at hr
        subst hr
        exact goodV_same hR hx
    · exact (fail_run h).elim
  · -- max
    refine GoodV.good (S := Builtin.max_ ats ty ⟨args'⟩) ?_
    unfold orFail at h
    split at h
    · rename_i r hr
      obtain ⟨rfl, rfl, rfl⟩ := ret_run h
      rcases amin_first hr with ⟨k, m, l, rfl⟩ | ⟨x, rfl⟩
      · cases ha with | @cons _ x' _ l' hx hs =>
        cases hx
        obtain ⟨k', m', h1, h2⟩ := max_go (P := P) (w := w) hs hr
        unfold Builtin.max_
        simp only
        rw [h2, h1]
        exact goodV_same hR (.int _ _)
      · cases ha with | @cons _ x' _ l' hx hs =>
        cases hs
        simp [amin, amin.go] at hr
        subst hr
        exact goodV_same hR hx
    · exact (fail_run h).elim
  · -- append
    rename_i t u _ s x _ hats
    cases ha with | @cons _ s' _ l' hs hs' =>
    cases hs' with | @cons _ x' _ l'' hx hs'' =>
    refine GoodV.good (S := Builtin.append_ ats ty ⟨s' :: x' :: l''⟩) ?_
    split at h
    · rename_i ti ui hti hui
      split at h
      · rename_i elem kk hd hud
        split at h
        · rename_i ei k0 kv hei
          split at h
          · rename_i hc
            simp only [Bool.and_eq_true, decide_eq_true_eq] at hc
            cases hx
            exact append_zrun (k0 := k0) hE hR hn hti hd hui hud hei (g0 hats) (g1 hats) (by simp) (by rfl) hs hc.1.1 hc.1.2 hc.2 h
          · exact (fail_run h).elim
        · exact (fail_run h).elim
      · rename_i elem hd hnot
        split at h
        · rename_i ei hei
          split at h
          · exact (fail_run h).elim
          · rename_i hsz
            obtain ⟨xs, cs, m, h1, h2, h3, h4, h5, h6, h7⟩ := seen_run (P := P) (by omega) hR hx h
            exact append_run hE hR hn (t := t) (u := u) (elem := elem) (ei := ei) hti hd hui (fun k hk => hnot _ hk) hei (g0 hats) (g1 hats) (by simp) (by simp) hs h2 h3 h4 h5 h6 h7 h1
        · exact (fail_run h).elim
      · exact (fail_run h).elim
    · exact (fail_run h).elim
  · -- copy
    rename_i t _ dd x _ hats
    cases ha with | @cons _ s' _ l' hs hs' =>
    cases hs' with | @cons _ x' _ l'' hx hs'' =>
    refine GoodV.good (S := Builtin.copy_ ats ty ⟨s' :: x' :: l''⟩) ?_
    split at h
    · rename_i ti hti
      split at h
      · rename_i elem aa m c hd
        split at h
        · rename_i ei hei
          split at h
          · exact (fail_run h).elim
          · rename_i hsz
            obtain ⟨xs, cs, m2, h1, h2, h3, h4, h5, h6, h7⟩ := seen_run (P := P) (by omega) hR hx h
            have hm2 : m2 = m := by
              cases hx <;> (simp [Builtin.lenOf] at h3; exact h3.symm)
            subst hm2
            exact copy_run hE hR hti hd hei (g0 hats) (by simp) (by simp) hs h2 h3 h4 h5 h6 (fun q hq => h7 q hq w (fun _ => rfl)) h1
        · exact (fail_run h).elim
      · rename_i elem s hd
        split at h
        · rename_i ei hei
          split at h
          · exact (fail_run h).elim
          · rename_i hsz
            obtain ⟨xs, cs, m2, h1, h2, h3, h4, h5, h6, h7⟩ := seen_run (P := P) (by omega) hR hx h
            have hm2 : m2 = s.size := by
              cases hx; simp [Builtin.lenOf] at h3; exact h3.symm
            subst hm2
            exact copy_run hE hR hti hd hei (g0 hats) (by simp) (by simp) hs h2 h3 h4 h5 h6 (fun q hq => h7 q hq w (fun _ => rfl)) h1
        · exact (fail_run h).elim
      · exact (fail_run h).elim
    · exact (fail_run h).elim
  · -- clear
    rename_i t _ dd _ hats
    cases ha with | @cons _ s' _ l' hs hs' =>
    refine GoodV.good (S := Builtin.clear_ ats ty ⟨s' :: l'⟩) ?_
    split at h
    · rename_i ti hti
      split at h
      · rename_i elem hd
        split at h
        · rename_i ei hei
          exact clear_run hE hR hti hd hei (g0 hats) (by simp) hs h
        · exact (fail_run h).elim
      · exact (fail_run h).elim
    · exact (fail_run h).elim
  · exact (fail_run h).elim

theorem op_call_builtin (hE : EnvOk P E) (hR : Rel E.den N w0 ι σ w) (hτ : TR ι τ a) (hn : ∀ i, n ≤ i → i < n' → ι i = none) {o : Oper} {c : Call} {b : Builtin} (ho : o.op = .call c) (hb : c.callee = .builtin b) (h : (match evL τ c.args.toList with
      | some args => abuiltin E b c.argTypes.toList args
      | none => .fail).run n σ = some (v, n', d)) : Good E.den N w0 ι σ n n' v d ((execOp a.eval o).run P w) := by
  split at h
  · rename_i args hargs
    unfold execOp
    rw [ho]
    simp only [resolve, hb, Sem.run_bind, Sem.run_pure, Result.andThen_ok, invoke]
    have e : c.args.map a.eval = ⟨c.args.toList.map a.eval⟩ := by apply Array.ext'; simp
    rw [e]
    exact op_builtin hE hR hn (evL_sound hτ hargs) h
  · exact (fail_run h).elim

/-- Every operation but a call of a function. -/
theorem aop0_sound (hE : EnvOk P E) (hR : Rel E.den N w0 ι σ w) (hτ : TR ι τ a) (hn : ∀ i, n ≤ i → i < n' → ι i = none) {o : Oper} (h : (aop0 E τ o).run n σ = some (v, n', d)) : Good E.den N w0 ι σ n n' v d ((execOp a.eval o).run P w) := by
  obtain ⟨dst, op, type, pos, after, guard⟩ := o
  unfold aop0 at h
  cases op with
  | move x => exact op_move hR hτ h
  | assign x => exact op_move hR hτ h
  | pick c x y => exact op_pick hR hτ h
  | alloc t => exact op_alloc hE hR hn h
  | box t x => exact op_box hR hτ hn h
  | build t ps => exact op_build hE hR hτ h
  | buildSlice t l ps => exact op_buildSlice hE hR hτ hn h
  | load t x => exact op_load hE hR hτ h
  | store t x y => exact op_store hE hR hτ h
  | nilCheck x => exact op_nilCheck hR hτ rfl h
  | binOp op t x y _ => exact op_binOp hE hR hτ h
  | unOp op t x => exact op_unOp hE hR hτ h
  | convert s t x => exact op_convert hE hR hτ hn h
  | makeInterface t x => exact op_makeInterface hE hR hτ h
  | makeFunc f x y => exact op_makeFunc hR hτ h
  | makeSlice t x y => exact op_makeSlice hE hR hτ hn h
  | slice t x l q m => exact op_slice hE hR hτ hn h
  | fieldAddr t x f => exact op_fieldAddr hE hR hτ h
  | field t x f => exact op_field hE hR hτ h
  | indexAddr t x y => exact op_indexAddr hE hR hτ h
  | index t x y => exact op_index hE hR hτ h
  | extract x k => exact op_extract hR hτ h
  | typeAssert x t u ok => exact op_typeAssert hE hR hτ h
  | call c =>
    simp only at h
    split at h
    · rename_i b hb
      exact op_call_builtin hE hR hτ hn (o := ⟨dst, .call c, type, pos, after, guard⟩) rfl hb h
    · exact (fail_run h).elim
  | _ => exact (fail_run h).elim
theorem TR.dec {D : Den} (hD : DenOk D ι) (hτ : TR ι τ a) : TR ι (Go.Proofs.YtgajcmanompmcaaV.dec D τ) a := by
  intro t
  have h := hτ t
  unfold Go.Proofs.YtgajcmanompmcaaV.dec
  split
  · rename_i c hc
    rw [hc] at h
    cases hd : D c with
    | none => exact h
    | some v =>
      obtain ⟨p, h1, h2⟩ := hD _ _ hd
      generalize a.tmps.getD t undef = x' at h
      cases h with
      | sym g1 g2 => rw [h1] at g1; cases g1; rw [h2] at g2; cases g2; exact .int _ _
      | symS g1 g2 => rw [h1] at g1; cases g1; rw [h2] at g2; cases g2; exact .str _
  · exact h
theorem DenR.flat {D : Den} {v v' u : Value} (h : DenR D v v') (hu : Go.Proofs.YtgajcmanompmcaaV.VR ι v' u) : u = v' := by
  cases h <;> (cases hu; rfl)
theorem aop_sound (hE : EnvOk P E) (hR : Rel E.den N w0 ι σ w) (hτ : TR ι τ a) (hn : ∀ i, n ≤ i → i < n' → ι i = none) {o : Oper} (h : (aop E τ o).run n σ = some (v, n', d)) : Good E.den N w0 ι σ n n' v d ((execOp a.eval o).run P w) := by
  unfold aop at h
  split at h
  · rename_i z hz
    obtain ⟨rfl, rfl, rfl⟩ := ret_run h
    obtain ⟨v', d1, d2⟩ := hE.sop _ _ _ hz
    obtain ⟨nx, w', u, κ, h1, h2, h3, h4, h5, h6⟩ := aop0_sound hE hR (hτ.dec hR.den) hn (d2 n' σ)
    have e := d1.flat h6
    subst e
    exact ⟨nx, w', _, κ, h1, h2, h3, h4, h5, d1.VR h5.den⟩
  · exact aop0_sound hE hR hτ hn h
end
end Go.Proofs.YtgajcmanompmcaaV
