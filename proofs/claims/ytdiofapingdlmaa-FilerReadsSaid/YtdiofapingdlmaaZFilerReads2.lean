/- Part 2 of the texts that prove FilerReads: the abstract machine, its calculus, and walks through functions; joined by a program of this workplace. -/
import Derived.Test.YtdiofapingdlmaaZFilerReads1
import Derived.WalkKit
import Derived.Laws.BitsLemmas
import Derived.ProofKit
import Derived.OpenShut
import Derived.ShutString
import Derived.ChangeOld
import Derived.Below
import Derived.SizedLaws
import Derived.Laws.Strings
import Derived.ChangeArms
/- The abstract machine: builtins, conversions; all operations. -/
set_option linter.unusedVariables false
set_option linter.unusedSimpArgs false
namespace Go.Proofs.YtdiofapingdlmaaV
open Go.RowKit
section
variable {P : Program} {E : Env} {τ : Nat → Value} {a : Act} {ι : Inj} {σ : Store} {N n n' : Nat} {w0 w : World} {v : Value} {d : Delta}
theorem flatten_take {sz : Nat} : ∀ {es : List (List Value)} (q : Nat), (∀ e ∈ es, e.length = sz) → (es.take q).flatten = es.flatten.take (q * sz)
  | [], q, _ => by simp
  | e :: es, 0, _ => by simp
  | e :: es, q + 1, h => by
    have h0 := h e (by simp)
    simp only [List.take_succ_cons, List.flatten_cons]
    have e1 : (q + 1) * sz = sz + q * sz := by rw [Nat.add_mul]; omega
    rw [flatten_take q (fun x hx => h x (List.mem_cons_of_mem _ hx)), e1, List.take_append, List.take_of_length_le (l := e) (by omega), h0, Nat.add_sub_cancel_left]
theorem copy_run (hE : EnvOk P E) (hR : Rel E.den N w0 ι σ w) {t elem ty : Nat} {ti ei : TI} {ats : Array TypeId} {args : Array Value} {s s' x' : Value} (ht : E.ty t = some ti) (hd : ti.d = .slice elem) (he : E.ty elem = some ei)
    (h0 : ats[0]? = some t) (h2 : args[0]? = some s') (h3 : args[1]? = some x') (hs : VR ι s s') {xs : List (List Value)} {cs : List Value} {m : Nat} (hm : xs.length = m) (hlen : (Builtin.lenOf x').run P w = .ok m w) (hxl : ∀ e ∈ xs, e.length = ei.size) (hcs : VRs ι xs.flatten cs) (hone : ∀ e ∈ xs, e.all oneB = true)
    (hfc : ∀ q, q ≤ m → (Builtin.firstCells ei.size q x').run P w = .ok ⟨cs.take (q * ei.size)⟩ w) (h : (acopy ei.size s m xs).run n σ = some (v, n', d)) :
    GoodV E.den N w0 ι σ n n' v d ((Builtin.copy_ ats ty args).run P w) := by
  have head : ∀ (base : Option Addr) (dLen dCap : Nat), s' = .slice base dLen dCap → (Builtin.copy_ ats ty args).run P w = ((do
      if let some a := base then storeCells a (cs.take (min m dLen * ei.size))
      pure (goInt (min m dLen : Nat)) : Sem Value)).run P w := by
    intro base dLen dCap hs'
    subst hs'
    unfold Builtin.copy_
    simp only [h0, h2, h3, Sem.run_bind, und_run hE w ht, hd, Result.andThen_ok, size_run hE w he, Sem.run_pure, hlen]
    have e1 := hfc (min m dLen) (Nat.min_le_left _ _)
    have e2 : Nat.min m dLen = min m dLen := rfl
    rw [e2]
    simp only [e1, Result.andThen_ok]
    cases base <;> rfl
  unfold acopy at h
  split at h
  · cases hs
    obtain ⟨rfl, rfl, rfl⟩ := ret_run h
    rw [head none 0 0 rfl]
    simp only [Nat.min_zero, goInt]
    exact goodV_same hR (.int _ _)
  · rename_i j o len c
    have hS0 : ∀ ob, SR ι ob j o len c s' := fun ob => slice_cases hs
    split at h
    · rename_i hx0
      obtain ⟨rfl, rfl, rfl⟩ := ret_run h
      have hx1 : (xs.take (min m len)) = [] := by simpa using hx0
      have hmin : min m len = 0 := by
        have := congrArg List.length hx1
        simp [hm] at this
        omega
      have fin : ∀ (ad : Addr) (c' : Nat), s' = .slice (some ad) len c' → GoodV E.den N w0 ι σ n' n' (.int .i64 (min m len : Nat)) [] ((Builtin.copy_ ats ty args).run P w) := by
        intro ad c' hs'
        rw [head _ _ _ hs', hmin]
        simp only [Nat.zero_mul, List.take_zero, storeCells, Sem.run_bind, Sem.run_pure, Result.andThen_ok]
        exact goodV_same hR (.int _ _)
      cases hS0 default with
      | nil e0 _ =>
        subst e0
        rw [head none 0 0 rfl]
        simp only [Nat.min_zero, goInt]
        exact goodV_same hR (.int _ _)
      | at_ hp hc hcc e0 e1 => exact fin _ _ rfl
      | zero e0 ez e1 => subst e0; exact fin _ _ rfl
    · rename_i hx0
      obtain ⟨ob, ho, hx⟩ := get_run h
      clear h
      have h := hx
      clear hx
      obtain ⟨p, g1, g2, g3⟩ := hR.obj _ _ ho
      split at h
      · exact (fail_run h).elim
      · rename_i hc
        simp only [Bool.or_eq_true, decide_eq_true_eq, not_or, Decidable.not_not, Bool.not_eq_true', Bool.not_eq_false, Nat.not_lt] at hc
        obtain ⟨⟨⟨q1, q2⟩, q3⟩, q4⟩ := hc
        have q1' : ob.sz = ei.size := by simpa using q1
        have q2' : ob.w = true := by simpa using q2
        have q3' : o + len ≤ ob.es.length := by simpa using q3
        obtain ⟨rfl, rfl, rfl⟩ := ret_run h
        have hpos : 0 < len := by
          cases len with
          | zero => simp at hx0
          | succ k => omega
        have htl : (xs.take (min m len)).length = min m len := by simpa using q4
        have hf : VRs ι (xs.take (min m len)).flatten (cs.take (min m len * ei.size)) := by
          rw [flatten_take _ hxl]; exact hcs.take _
        obtain ⟨e1, e2⟩ := write_run (P := P) (o := o) (xs := xs.take (min m len)) hR ho g1 g3 q2' (by have := g3.cap; omega) (fun e he => by rw [q1']; exact hxl e (List.mem_of_mem_take he)) (fun e he => hone e (List.mem_of_mem_take he)) hf (by rw [htl]; omega)
        cases hS0 ob with
        | at_ hp hcc' hcc e0 _ =>
          rw [g1] at hp; cases hp
          rw [head _ _ _ rfl]
          simp only [Sem.run_bind, e1, Result.andThen_ok, Sem.run_pure]
          exact ⟨_, _, ι, rfl, Inj.le_refl _, fun i h => absurd rfl h, e2, .int _ _⟩
        | nil e0 _ => omega
        | zero e0 ez _ => omega
  · exact (fail_run h).elim
theorem zeroCells_list {i : TI} (hE : EnvOk P E) {t : Nat} (hi : E.ty t = some i) (m : Nat) : VRs ι (List.replicate m (cellsL i.zero)).flatten (Builtin.zeroCells i.zero.cells m).toList := by
  obtain ⟨hz, hl, h1⟩ := hE.zero _ _ hi
  have hsz : i.zero.cells.size = i.size := by unfold cellsL at hl; simpa using hl
  have hel : ∀ e ∈ List.replicate m (cellsL i.zero), e.length = i.size := fun e he => by
    rw [(List.mem_replicate.1 he).2]; exact hl
  refine VRs.of_get ?_ (fun j v hv => ?_)
  · rw [flat_length hel]; simp [Builtin.zeroCells, hsz]
  · have hjl := (List.getElem?_eq_some_iff.1 hv).1
    rw [flat_length hel, List.length_replicate] at hjl
    have hpos : 0 < i.size := by
      rcases Nat.eq_zero_or_pos i.size with h | h
      · rw [h] at hjl; omega
      · exact h
    obtain ⟨e, he, hj⟩ := flat_split hpos hel hv
    rw [List.getElem?_replicate] at he
    split at he
    · cases he
      obtain ⟨v', g1, g2⟩ := (hz ι).cells.get _ _ hj
      refine ⟨v', ?_, g2⟩
      rw [← g1]
      have hj2 : j < m * i.zero.cells.size := by rw [hsz]; exact hjl
      rw [Array.getElem?_toList]
      exact (zeros_get i.zero.cells (m * i.zero.cells.size) j (by omega) hj2).trans (by rw [hsz]; simp)
    · cases he
theorem append_zrun (hE : EnvOk P E) (hR : Rel E.den N w0 ι σ w) (hn : ∀ i, n ≤ i → i < n' → ι i = none) {t u elem ty : Nat} {ti ui ei : TI} {ats : Array TypeId} {args : Array Value} {s s' : Value} {kk k0 : IntKind} {kv : Int} (ht : E.ty t = some ti) (hd : ti.d = .slice elem) (hu : E.ty u = some ui) (hud : ui.d = .int kk) (he : E.ty elem = some ei)
    (h0 : ats[0]? = some t) (h1 : ats[1]? = some u) (h2 : args[0]? = some s') (h3 : args[1]? = some (.int k0 kv)) (hs : VR ι s s') (hz : 0 < ei.size) (hk0 : 0 ≤ kv) (hsm0 : small kv.toNat ei.bytes = true) (h : (aappend elem ei s (List.replicate kv.toNat (cellsL ei.zero))).run n σ = some (v, n', d)) :
    GoodV E.den N w0 ι σ n n' v d ((Builtin.append_ ats ty args).run P w) := by
  obtain ⟨hz1, hz2, hz3⟩ := hE.zero _ _ he
  have hzsz : ei.zero.cells.size = ei.size := by unfold cellsL at hz2; simpa using hz2
  obtain ⟨_, inf2, i1, i2, i3, i4⟩ := hE.ty _ _ he
  have htyp : ∀ w1 : World, (typeInfo elem).run P w1 = .ok inf2 w1 := fun w1 => by simp [typeInfo, i1]
  simp only [small, Bool.and_eq_true, decide_eq_true_eq] at hsm0
  generalize hm : kv.toNat = m at *
  have hkm : kv = (m : Nat) := by omega
  subst hkm
  have hw64 : IntKind.i64.wrap ((m : Nat) : Int) = ((m : Nat) : Int) := by rw [IntKind.wrap_i64]; omega
  have hb48 : ¬ ((m : Nat) : Int) * ((inf2.bytes : Nat) : Int) > 2 ^ 48 := by
    rw [i4]
    have h1 : m * ei.bytes ≤ 1073741824 * 65536 := Nat.mul_le_mul hsm0.1 hsm0.2
    have h2 : ((m * ei.bytes : Nat) : Int) ≤ ((1073741824 * 65536 : Nat) : Int) := Int.ofNat_le.2 h1
    rw [Int.natCast_mul] at h2
    have h3 : ((1073741824 * 65536 : Nat) : Int) ≤ 2 ^ 48 := by decide
    omega
  have hneg : ¬ ((m : Nat) : Int) < 0 := by omega
  have happ : ∀ w1 : World, ((if m * ei.size = 0 then (pure #[] : Sem (Array Value)) else do pure (Builtin.zeroCells (← zeroValue elem).cells m))).run P w1 = .ok (Builtin.zeroCells ei.zero.cells m) w1 := fun w1 => by
    split
    · rename_i h0
      have : m = 0 := by rcases Nat.mul_eq_zero.1 h0 with h | h <;> omega
      subst this
      simp [Builtin.zeroCells]
    · simp only [Sem.run_bind, zero_run hE _ he, Result.andThen_ok, Sem.run_pure]
  refine append_core hE hR hn (x' := .int k0 ((m : Nat) : Int)) (m := m) (cs := (Builtin.zeroCells ei.zero.cells m).toList) ht hd hu he h0 h1 h2 h3 hs List.length_replicate (fun e he' => by rw [(List.mem_replicate.1 he').2]; exact hz2) (zeroCells_list hE he m) (fun e he' => by rw [(List.mem_replicate.1 he').2]; exact hz3) ?_ ?_ h
  · intro base sLen sCap hs' hle
    subst hs'
    unfold Builtin.append_
    simp only [h0, h1, h2, h3, Sem.run_bind, und_run hE w ht, hd, und_run hE w hu, hud, Result.andThen_ok, size_run hE w he, Sem.run_pure, if_true, asInt, asIntOf, hw64, hneg, if_false, htyp, hb48, Int.toNat_natCast, hle, Bool.not_true, Bool.false_eq_true, happ]
    cases base <;> rfl
  · intro base sLen sCap oc hs' hlt hsm hold
    subst hs'
    simp only [small, Bool.and_eq_true, decide_eq_true_eq] at hsm
    have hnc := nextcap_le hlt
    have hbig : ¬ Builtin.nextslicecap (sLen + m) sCap * inf2.bytes > 2 ^ 48 := by
      rw [i4]
      have h1 : Builtin.nextslicecap (sLen + m) sCap * ei.bytes ≤ (2 * 1073741824 + 192) * 65536 := Nat.mul_le_mul (by omega) hsm.2
      have : (2 * 1073741824 + 192) * 65536 ≤ 2 ^ 48 := by decide
      omega
    have hmax : ¬ ((sLen + m : Nat) : Int) > IntKind.i64.max := by
      simp only [IntKind.max, IntKind.signed, IntKind.bits]
      simp
      omega
    let q : Question := .appendCap (sLen + m) sCap elem
    let newCap := q.cut (w.tape w.drawn q)
    have hnew : sLen + m ≤ newCap := cut_ge _ _ _ _
    refine ⟨newCap, _, hnew, rfl, Builtin.zeroCells ei.zero.cells (newCap - (sLen + m)), by simp [Builtin.zeroCells, hzsz], ?_⟩
    unfold Builtin.append_
    have hnle : ¬ sLen + m ≤ sCap := by omega
    have hw1 : ∀ b : Nat, ({ w with drawn := w.drawn + 1 } : World).heap[b]? = w.heap[b]? := fun _ => rfl
    have e1 := hold { w with drawn := w.drawn + 1 } hw1
    simp only [h0, h1, h2, h3, Sem.run_bind, und_run hE w ht, hd, und_run hE w hu, hud, Result.andThen_ok, size_run hE w he, Sem.run_pure, if_true, asInt, asIntOf, hw64, hneg, if_false, htyp, hb48, Int.toNat_natCast, hnle, hmax, false_and, hbig, Bool.not_true, Bool.false_eq_true, happ, run_choose, run_askRoom, zero_run hE _ he, newRow, run_newObj]
    rw [if_neg (by rw [show (Question.appendCap (sLen + m) sCap elem).forced = false from rfl]; simp)]
    simp only [Result.andThen_ok, e1, happ, if_true, Sem.run_bind, zero_run hE _ he, Sem.run_pure, htyp, run_askRoom, run_newObj]
    rfl
theorem clear_run (hE : EnvOk P E) (hR : Rel E.den N w0 ι σ w) {t elem ty : Nat} {ti ei : TI} {ats : Array TypeId} {args : Array Value} {s s' : Value} (ht : E.ty t = some ti) (hd : ti.d = .slice elem) (he : E.ty elem = some ei)
    (h0 : ats[0]? = some t) (h2 : args[0]? = some s') (hs : VR ι s s') (h : (aclear ei s).run n σ = some (v, n', d)) :
    GoodV E.den N w0 ι σ n n' v d ((Builtin.clear_ ats ty args).run P w) := by
  unfold aclear at h
  split at h
  · obtain ⟨rfl, rfl, rfl⟩ := ret_run h
    cases hs
    unfold Builtin.clear_
    simp only [h0, h2, Sem.run_bind, und_run hE w ht, hd, Result.andThen_ok, Sem.run_pure]
    exact goodV_same hR (.tuple .nil)
  · obtain ⟨rfl, rfl, rfl⟩ := ret_run h
    cases hs
    unfold Builtin.clear_
    simp only [h0, h2, Sem.run_bind, und_run hE w ht, hd, Result.andThen_ok, Sem.run_pure]
    exact goodV_same hR (.tuple .nil)
  · rename_i j o len c
    have hS0 : ∀ ob, SR ι ob j o len c s' := fun ob => slice_cases hs
    split at h
    · rename_i hl0
      subst hl0
      obtain ⟨rfl, rfl, rfl⟩ := ret_run h
      unfold Builtin.clear_
      cases hS0 default with
      | nil _ _ =>
        simp only [h0, h2, Sem.run_bind, und_run hE w ht, hd, Result.andThen_ok, Sem.run_pure]
        exact goodV_same hR (.tuple .nil)
      | at_ hp hc hcc e0 e1 =>
        simp only [h0, h2, Sem.run_bind, und_run hE w ht, hd, Result.andThen_ok, Sem.run_pure]
        exact goodV_same hR (.tuple .nil)
      | zero e0 ez e1 =>
        simp only [h0, h2, Sem.run_bind, und_run hE w ht, hd, Result.andThen_ok, Sem.run_pure]
        exact goodV_same hR (.tuple .nil)
    · rename_i hl0
      obtain ⟨ob, ho, hx⟩ := get_run h
      clear h
      have h := hx
      clear hx
      obtain ⟨p, g1, g2, g3⟩ := hR.obj _ _ ho
      split at h
      · exact (fail_run h).elim
      · rename_i hc
        simp only [Bool.or_eq_true, decide_eq_true_eq, not_or, Decidable.not_not, Bool.not_eq_true', Bool.not_eq_false, Nat.not_lt] at hc
        obtain ⟨⟨q1, q2⟩, q3⟩ := hc
        have q1' : ob.sz = ei.size := by simpa using q1
        have q2' : ob.w = true := by simpa using q2
        have q3' : o + len ≤ ob.es.length := by simpa using q3
        obtain ⟨rfl, rfl, rfl⟩ := ret_run h
        obtain ⟨hz, hzl, hz1⟩ := hE.zero _ _ he
        obtain ⟨e1, e2⟩ := write_run (P := P) (o := o) (xs := List.replicate len (cellsL ei.zero)) hR ho g1 g3 q2' (by have := g3.cap; omega) (fun e he => by rw [q1', (List.mem_replicate.1 he).2]; exact hzl) (fun e he => by rw [(List.mem_replicate.1 he).2]; exact hz1) (zeroCells_list hE he len) (by simpa using q3')
        cases hS0 ob with
        | at_ hp hcc' hcc e0 _ =>
          rw [g1] at hp; cases hp
          unfold Builtin.clear_
          obtain ⟨len', rfl⟩ : ∃ k, len = k + 1 := ⟨len - 1, by omega⟩
          simp only [h0, h2, Sem.run_bind, und_run hE w ht, hd, Result.andThen_ok, zero_run hE w he, e1, Sem.run_pure]
          exact ⟨_, _, ι, rfl, Inj.le_refl _, fun i h => absurd rfl h, e2, .tuple .nil⟩
        | nil e0 _ => exact absurd e0 hl0
        | zero e0 ez _ => exact absurd e0 hl0
  · exact (fail_run h).elim
theorem modify_push {α : Type} (xs : Array α) (x : α) (f : α → α) : (xs.push x).modify xs.size f = xs.push (f x) := by
  apply Array.ext
  · simp
  · intro i h1 h2
    simp [Array.getElem_modify]
    by_cases h : i = xs.size
    · subst h; simp
    · have : i < xs.size := by simp at h1; omega
      rw [if_neg (fun e => h e.symm)]
      simp [Array.getElem_push, this]
theorem op_convert (hE : EnvOk P E) (hR : Rel E.den N w0 ι σ w) (hτ : TR ι τ a) (hn : ∀ i, n ≤ i → i < n' → ι i = none) {src dst : Nat} {x : Operand} (h : (ev τ x fun v => match E.ty src, E.ty dst with
    | some s, some t => match s.d, t.d, v with
      | _, .int k, .chan (some c) => orFail (E.cvt k (.chan (some c)))
      | _, .int k, .int _ n => .ret (.int k (k.wrap n)) []
      | .string, .string, .string b => .ret (.string b) []
      | _, .slice e, .string b => match E.ty e with
        | some ei => match ei.d with
          | .int .u8 => .fresh fun n => .ret (.slice (some ⟨n, 0, none⟩) b.size 0) [(n, some ⟨b.data.toList.map fun c => [.int .u8 c.toNat], 1, e, true⟩)]
          | _ => .fail
        | none => .fail
      | .slice e, .string, .slice a len c => match E.ty e with
        | some ei => match ei.d with
          | .int .u8 => astr (.slice a len c)
          | _ => .fail
        | none => .fail
      | _, _, _ => .fail
    | _, _ => .fail).run n σ = some (v, n', d)) : Good E.den N w0 ι σ n n' v d ((do pure (Next.value (← convert src dst (a.eval x))) : Sem Next).run P w) := by
  obtain ⟨u, hu, h1⟩ := ev_run hτ h
  clear h
  have h := h1
  clear h1
  generalize a.eval x = x' at hu
  split at h
  · rename_i s t hs ht
    have us := und_run hE w hs
    have ut := und_run hE w ht
    refine GoodV.good ?_
    unfold convert
    simp only [Sem.run_bind, us, ut, Result.andThen_ok]
    split at h
    · rename_i k c hk
      unfold orFail at h
      split at h
      · rename_i z hz
        obtain ⟨rfl, rfl, rfl⟩ := ret_run h
        obtain ⟨k1, m, v1, d1, d2, d3⟩ := hE.cvt _ _ _ hz
        have e1 := d1.same hR.den hu
        subst e1
        subst d3
        rw [hk]
        cases s.d <;> exact goodV_same hR (d2.VR hR.den)
      · exact (fail_run h).elim
    · rename_i k k2 m hk
      obtain ⟨rfl, rfl, rfl⟩ := ret_run h
      cases hu
      rw [hk]
      have : (match s.d, TypeDesc.int k, Value.int k2 m with
        | _, .int k, .int _ n => Conv.intToInt k n
        | _, _, _ => unsupported (.noEntry "")) = Conv.intToInt k m := rfl
      cases s.d <;> exact goodV_same hR (.int _ _)
    · rename_i b hs' ht'
      obtain ⟨rfl, rfl, rfl⟩ := ret_run h
      cases hu
      rw [hs', ht']
      exact goodV_same hR (.str _)
    · rename_i e b ht'
      split at h
      · rename_i ei hei
        split at h
        · rename_i hd8
          obtain ⟨rfl, rfl, rfl⟩ := ret_run (fresh_run h)
          cases hu
          rw [ht']
          let q : Question := .appendCap b.size 0 e
          let cap := q.cut (w.tape w.drawn q)
          have hcap : b.size ≤ cap := cut_ge _ _ _ _
          have hrun : (Conv.stringToBytes e b).run P w = .ok (.slice (some ⟨w.heap.size, 0, none⟩) b.size cap) { w with heap := w.heap.push (.cells ((b.data.map fun c => Value.int .u8 c.toNat) ++ Array.replicate (cap - b.size) (.int .u8 0)) e (cap, cap + 1)), drawn := w.drawn + 1 } := by
            unfold Conv.stringToBytes
            simp only [Sem.run_bind, run_choose]
            rw [if_neg (by rw [show (Question.appendCap b.size 0 e).forced = false from rfl]; simp)]
            simp only [Result.andThen_ok, newRow, Sem.run_bind, run_newObj, Sem.run_pure, markStringish, run_shape]
            have hsz : ((b.data.map fun c => Value.int .u8 c.toNat) ++ Array.replicate (cap - b.size) (Value.int .u8 0)).size = cap := by
              simp
              show b.size + (cap - b.size) = cap
              omega
            have hshape : ({ w with heap := w.heap.push (.cells ((b.data.map fun c => Value.int .u8 c.toNat) ++ Array.replicate (cap - b.size) (.int .u8 0)) e (0, 0)), drawn := w.drawn + 1 } : World).shape? w.heap.size = some (e, cap) := by
              simp only [World.shape?, Array.getElem?_push, if_true]
              rw [hsz]
            show ((Sem.run P (match ({ w with heap := w.heap.push (.cells ((b.data.map fun c => Value.int .u8 c.toNat) ++ Array.replicate (cap - b.size) (.int .u8 0)) e (0, 0)), drawn := w.drawn + 1 } : World).shape? w.heap.size with
              | some (_, n) => freeze { block := w.heap.size, off := n } 1
              | _ => pure ()) _).andThen _) = _
            rw [hshape]
            simp only [run_freeze, Result.andThen_ok]
            unfold World.freeze
            simp only [Nat.one_ne_zero, if_false, modify_push]
            rfl
          have hrun' : ∀ z, (match z, TypeDesc.slice e, Value.string b with
            | _, .slice e, .string s => (do
                match ← underlying e with
                | .int .u8 => Conv.stringToBytes e s
                | .int .i32 => Conv.stringToRunes e s
                | _ => stuck "" : Sem Value)
            | (_ : TypeDesc), _, _ => stuck "").run P w = (Conv.stringToBytes e b).run P w := by
            intro z
            simp only [Sem.run_bind, und_run hE w hei, hd8, Result.andThen_ok]
          have fin : GoodV E.den N w0 ι σ n (n + 1) (.slice (some ⟨n, 0, none⟩) b.size 0) [(n, some ⟨b.data.toList.map fun c => [.int .u8 c.toNat], 1, e, true⟩)] ((Conv.stringToBytes e b).run P w) := by
            rw [hrun]
            have hfr := hn n (Nat.le_refl _) (by omega)
            have hlen : (b.data.toList.map fun c => [Value.int .u8 (c.toNat : Int)]).length = b.size := by simp
            refine ⟨_, _, ι.set n ⟨w.heap.size, 0, 1, cap, none⟩, rfl, Inj.set_le hfr _, fun i => Inj.set_only i, rel_new (p := ⟨w.heap.size, 0, 1, cap, none⟩) (o := ⟨b.data.toList.map fun c => [.int .u8 c.toNat], 1, e, true⟩) hR hfr rfl rfl (by simp) (by show List.length _ ≤ cap; rw [hlen]; exact hcap) (fun k el hk => ?_) (fun k el hk j vv hv => ?_) ?_ ⟨fun k hk => ?_, fun h => absurd h (by show ¬ 1 < 1; decide)⟩ _, VR_row ι n ⟨w.heap.size, 0, 1, cap, none⟩ hcap rfl⟩
            · have := List.mem_of_getElem? hk
              simp at this
              obtain ⟨c, _, rfl⟩ := this
              rfl
            · have hkl : k < b.size := by rw [← hlen]; exact (List.getElem?_eq_some_iff.1 hk).1
              have hkb : k < b.data.size := hkl
              simp only [List.getElem?_map] at hk
              rw [show b.data.toList[k]? = some b.data[k] by simp [hkb]] at hk
              simp at hk
              subst hk
              cases j with
              | succ j => simp at hv
              | zero =>
                simp at hv
                subst hv
                refine ⟨_, ?_, .int _ _, rfl⟩
                have h_ : k < (List.map (fun (c : UInt8) => Value.int .u8 (c.toNat : Int)) b.data.toList).length := by simpa using hkb
                have h2_ : (List.map (fun (c : UInt8) => Value.int .u8 (c.toNat : Int)) b.data.toList ++ List.replicate (cap - b.size) (Value.int .u8 0))[k]? = some (Value.int .u8 (b.data[k].toNat : Int)) := by
                  rw [List.getElem?_append_left h_, List.getElem?_map]
                  simp
                  exact ⟨b.data[k], by simp [hkb], rfl⟩
                simpa using h2_
            · simp
              show cap ≤ b.size + (cap - b.size)
              omega
            · simp at hk
              have : k < b.size + (cap - b.size) := hk
              simp
              omega
          cases s.d <;> (simp only [Sem.run_bind, und_run hE w hei, hd8, Result.andThen_ok]; exact fin)
        · exact (fail_run h).elim
      · exact (fail_run h).elim
    · rename_i e ad len c hs' ht'
      split at h
      · rename_i ei hei
        split at h
        · rename_i hd8
          obtain ⟨rfl, rfl, s0, rfl, hr⟩ := astr_run (P := P) hR hu h
          rw [hs', ht']
          have hx : ∃ a' l' c', x' = .slice a' l' c' := by cases hu <;> exact ⟨_, _, _, rfl⟩
          obtain ⟨a', l', c', rfl⟩ := hx
          simp only [Sem.run_bind, und_run hE w hei, hd8, Result.andThen_ok]
          rw [hr]
          exact goodV_same hR (.str _)
        · exact (fail_run h).elim
      · exact (fail_run h).elim
    · exact (fail_run h).elim
  · exact (fail_run h).elim
theorem min_go : ∀ {l l' : List Value} {k : IntKind} {m : Int} {r : Value}, VRs ι l l' → amin.go .lss (.int k m) l = some r → ∃ k' m', r = .int k' m' ∧ (l'.foldlM Builtin.min2 (.int k m)).run P w = .ok r w
  | [], _, k, m, r, .nil, h => by
    simp [amin.go] at h; subst h; exact ⟨k, m, rfl, rfl⟩
  | y :: l, _, k, m, r, .cons (v' := y') hy hs, h => by
    unfold amin.go at h
    split at h
    · rename_i k1 a1 k2 b1 e
      cases e
      cases hy
      obtain ⟨k', m', h1, h2⟩ := min_go hs h
      refine ⟨k', m', h1, ?_⟩
      simp only [List.foldlM_cons, Sem.run_bind, Builtin.min2, Sem.run_pure, Result.andThen_ok]
      simp only [if_true, decide_eq_true_eq] at h2
      exact h2
    · cases h
theorem max_go : ∀ {l l' : List Value} {k : IntKind} {m : Int} {r : Value}, VRs ι l l' → amin.go .gtr (.int k m) l = some r → ∃ k' m', r = .int k' m' ∧ (l'.foldlM Builtin.max2 (.int k m)).run P w = .ok r w
  | [], _, k, m, r, .nil, h => by
    simp [amin.go] at h; subst h; exact ⟨k, m, rfl, rfl⟩
  | y :: l, _, k, m, r, .cons (v' := y') hy hs, h => by
    unfold amin.go at h
    split at h
    · rename_i k1 a1 k2 b1 e
      cases e
      cases hy
      obtain ⟨k', m', h1, h2⟩ := max_go hs h
      refine ⟨k', m', h1, ?_⟩
      simp only [List.foldlM_cons, Sem.run_bind, Builtin.max2, Sem.run_pure, Result.andThen_ok]
      simp only [reduceCtorEq, if_false, decide_eq_true_eq] at h2
      exact h2
    · cases h
theorem amin_first {op : BinOp} {l : List Value} {r : Value} (h : amin op l = some r) : (∃ k m l', l = .int k m :: l') ∨ ∃ x, l = [x] := by
  cases l with
  | nil => simp [amin] at h
  | cons x l =>
    cases l with
    | nil => exact .inr ⟨x, rfl⟩
    | cons y l =>
      simp only [amin] at h
      unfold amin.go at h
      split at h
      · rename_i e; exact .inl ⟨_, _, _, rfl⟩
      · cases h
theorem op_builtin (hE : EnvOk P E) (hR : Rel E.den N w0 ι σ w) (hn : ∀ i, n ≤ i → i < n' → ι i = none) {b : Builtin} {ats : Array TypeId} {ty : TypeId} {consts : Array Bool} {args args' : List Value} (ha : VRs ι args args') (h : (abuiltin E b ats.toList args).run n σ = some (v, n', d)) :
    Good E.den N w0 ι σ n n' v d ((builtin b ats ty consts ⟨args'⟩).run P w) := by
  have g0 : ∀ {x : Nat} {r : List Nat}, ats.toList = x :: r → ats[0]? = some x := fun e => by
    rw [← Array.getElem?_toList, e]; rfl
  have g1 : ∀ {x y : Nat} {r : List Nat}, ats.toList = x :: y :: r → ats[1]? = some y := fun e => by
    rw [← Array.getElem?_toList, e]; rfl
  unfold abuiltin at h
  split at h
  · -- len
    rename_i t _ x _ hats
    cases ha with | @cons _ x' _ l' hx hs =>
    refine GoodV.good (S := Builtin.len_ ats ty ⟨x' :: l'⟩) ?_
    split at h
    · rename_i i hi
      unfold Builtin.len_
      simp only [g0 hats, List.getElem?_toArray, List.getElem?_cons_zero, Sem.run_bind, und_run hE w hi, Result.andThen_ok]
      split at h
      · rename_i s hd
        obtain ⟨rfl, rfl, rfl⟩ := ret_run h
        cases hx
        simp only [hd]
        exact goodV_same hR (.int _ _)
      · rename_i m e _ hd
        obtain ⟨rfl, rfl, rfl⟩ := ret_run h
        simp only [hd]
        exact goodV_same hR (.int _ _)
      · rename_i e a m c hd
        obtain ⟨rfl, rfl, rfl⟩ := ret_run h
        cases hx <;> (simp only [hd]; exact goodV_same hR (.int _ _))
      · rename_i e a hd
        obtain ⟨rfl, rfl, rfl⟩ := ret_run h
        cases hx
        simp only [hd]
        exact goodV_same hR (.int _ _)
      · exact (fail_run h).elim
    · exact (fail_run h).elim
  · -- min
    refine GoodV.good (S := Builtin.min_ ats ty ⟨args'⟩) ?_
    unfold orFail at h
    split at h
    · rename_i r hr
      obtain ⟨rfl, rfl, rfl⟩ := ret_run h
      rcases amin_first hr with ⟨k, m, l, rfl⟩ | ⟨x, rfl⟩
      · cases ha with | @cons _ x' _ l' hx hs =>
        cases hx
        obtain ⟨k', m', h1, h2⟩ := min_go (P := P) (w := w) hs hr
        unfold Builtin.min_
        simp only
        rw [h2, h1]
        exact goodV_same hR (.int _ _)
      · cases ha with | @cons _ x' _ l' hx hs =>
        cases hs
        simp [amin, amin.go] at hr
        subst hr
        exact goodV_same hR hx
    · exact (fail_run h).elim
  · -- max
    refine GoodV.good (S := Builtin.max_ ats ty ⟨args'⟩) ?_
    unfold orFail at h
    split at h
    · rename_i r hr
      obtain ⟨rfl, rfl, rfl⟩ := ret_run h
      rcases amin_first hr with ⟨k, m, l, rfl⟩ | ⟨x, rfl⟩
      · cases ha with | @cons _ x' _ l' hx hs =>
        cases hx
        obtain ⟨k', m', h1, h2⟩ := max_go (P := P) (w := w) hs hr
        unfold Builtin.max_
        simp only
        rw [h2, h1]
        exact goodV_same hR (.int _ _)
      · cases ha with | @cons _ x' _ l' hx hs =>
        cases hs
        simp [amin, amin.go] at hr
        subst hr
        exact goodV_same hR hx
    · exact (fail_run h).elim
  · -- append
    rename_i t u _ s x _ hats
    cases ha with | @cons _ s' _ l' hs hs' =>
    cases hs' with | @cons _ x' _ l'' hx hs'' =>
    refine GoodV.good (S := Builtin.append_ ats ty ⟨s' :: x' :: l''⟩) ?_
    split at h
    · rename_i ti ui hti hui
      split at h
      · rename_i elem kk hd hud
        split at h
        · rename_i ei k0 kv hei
          split at h
          · rename_i hc
            simp only [Bool.and_eq_true, decide_eq_true_eq] at hc
            cases hx
            exact append_zrun (k0 := k0) hE hR hn hti hd hui hud hei (g0 hats) (g1 hats) (by simp) (by rfl) hs hc.1.1 hc.1.2 hc.2 h
          · exact (fail_run h).elim
        · exact (fail_run h).elim
      · rename_i elem hd hnot
        split at h
        · rename_i ei hei
          split at h
          · exact (fail_run h).elim
          · rename_i hsz
            obtain ⟨xs, cs, m, h1, h2, h3, h4, h5, h6, h7⟩ := seen_run (P := P) (by omega) hR hx h
            exact append_run hE hR hn (t := t) (u := u) (elem := elem) (ei := ei) hti hd hui (fun k hk => hnot _ hk) hei (g0 hats) (g1 hats) (by simp) (by simp) hs h2 h3 h4 h5 h6 h7 h1
        · exact (fail_run h).elim
      · exact (fail_run h).elim
    · exact (fail_run h).elim
  · -- copy
    rename_i t _ dd x _ hats
    cases ha with | @cons _ s' _ l' hs hs' =>
    cases hs' with | @cons _ x' _ l'' hx hs'' =>
    refine GoodV.good (S := Builtin.copy_ ats ty ⟨s' :: x' :: l''⟩) ?_
    split at h
    · rename_i ti hti
      split at h
      · rename_i elem aa m c hd
        split at h
        · rename_i ei hei
          split at h
          · exact (fail_run h).elim
          · rename_i hsz
            obtain ⟨xs, cs, m2, h1, h2, h3, h4, h5, h6, h7⟩ := seen_run (P := P) (by omega) hR hx h
            have hm2 : m2 = m := by
              cases hx <;> (simp [Builtin.lenOf] at h3; exact h3.symm)
            subst hm2
            exact copy_run hE hR hti hd hei (g0 hats) (by simp) (by simp) hs h2 h3 h4 h5 h6 (fun q hq => h7 q hq w (fun _ => rfl)) h1
        · exact (fail_run h).elim
      · rename_i elem s hd
        split at h
        · rename_i ei hei
          split at h
          · exact (fail_run h).elim
          · rename_i hsz
            obtain ⟨xs, cs, m2, h1, h2, h3, h4, h5, h6, h7⟩ := seen_run (P := P) (by omega) hR hx h
            have hm2 : m2 = s.size := by
              cases hx; simp [Builtin.lenOf] at h3; exact h3.symm
            subst hm2
            exact copy_run hE hR hti hd hei (g0 hats) (by simp) (by simp) hs h2 h3 h4 h5 h6 (fun q hq => h7 q hq w (fun _ => rfl)) h1
        · exact (fail_run h).elim
      · exact (fail_run h).elim
    · exact (fail_run h).elim
  · -- clear
    rename_i t _ dd _ hats
    cases ha with | @cons _ s' _ l' hs hs' =>
    refine GoodV.good (S := Builtin.clear_ ats ty ⟨s' :: l'⟩) ?_
    split at h
    · rename_i ti hti
      split at h
      · rename_i elem hd
        split at h
        · rename_i ei hei
          exact clear_run hE hR hti hd hei (g0 hats) (by simp) hs h
        · exact (fail_run h).elim
      · exact (fail_run h).elim
    · exact (fail_run h).elim
  · exact (fail_run h).elim
theorem op_call_builtin (hE : EnvOk P E) (hR : Rel E.den N w0 ι σ w) (hτ : TR ι τ a) (hn : ∀ i, n ≤ i → i < n' → ι i = none) {o : Oper} {c : Call} {b : Builtin} (ho : o.op = .call c) (hb : c.callee = .builtin b) (h : (match evL τ c.args.toList with
      | some args => abuiltin E b c.argTypes.toList args
      | none => .fail).run n σ = some (v, n', d)) : Good E.den N w0 ι σ n n' v d ((execOp a.eval o).run P w) := by
  split at h
  · rename_i args hargs
    unfold execOp
    rw [ho]
    simp only [resolve, hb, Sem.run_bind, Sem.run_pure, Result.andThen_ok, invoke]
    have e : c.args.map a.eval = ⟨c.args.toList.map a.eval⟩ := by apply Array.ext'; simp
    rw [e]
    exact op_builtin hE hR hn (evL_sound hτ hargs) h
  · exact (fail_run h).elim
/-- Every operation but a call of a function. -/
theorem aop0_sound (hE : EnvOk P E) (hR : Rel E.den N w0 ι σ w) (hτ : TR ι τ a) (hn : ∀ i, n ≤ i → i < n' → ι i = none) {o : Oper} (h : (aop0 E τ o).run n σ = some (v, n', d)) : Good E.den N w0 ι σ n n' v d ((execOp a.eval o).run P w) := by
  obtain ⟨dst, op, type, pos, after, guard⟩ := o
  unfold aop0 at h
  cases op with
  | move x => exact op_move hR hτ h
  | assign x => exact op_move hR hτ h
  | pick c x y => exact op_pick hR hτ h
  | alloc t => exact op_alloc hE hR hn h
  | box t x => exact op_box hR hτ hn h
  | build t ps => exact op_build hE hR hτ h
  | buildSlice t l ps => exact op_buildSlice hE hR hτ hn h
  | load t x => exact op_load hE hR hτ h
  | store t x y => exact op_store hE hR hτ h
  | nilCheck x => exact op_nilCheck hR hτ rfl h
  | binOp op t x y _ => exact op_binOp hE hR hτ h
  | unOp op t x => exact op_unOp hE hR hτ h
  | convert s t x => exact op_convert hE hR hτ hn h
  | makeInterface t x => exact op_makeInterface hE hR hτ h
  | makeFunc f x y => exact op_makeFunc hR hτ h
  | makeSlice t x y => exact op_makeSlice hE hR hτ hn h
  | slice t x l q m => exact op_slice hE hR hτ hn h
  | fieldAddr t x f => exact op_fieldAddr hE hR hτ h
  | field t x f => exact op_field hE hR hτ h
  | indexAddr t x y => exact op_indexAddr hE hR hτ h
  | index t x y => exact op_index hE hR hτ h
  | extract x k => exact op_extract hR hτ h
  | makeMap t r =>
    cases r with
    | none => exact op_makeMap hR hn h
    | some r => exact (fail_run h).elim
  | mapUpdate t x y z => exact op_mapUpdate hE hR hτ h
  | lookup t x y ok => exact op_lookup hE hR hτ h
  | range t x => exact op_range hE hR hτ hn h
  | next x b =>
    cases b with
    | false => exact op_next hR hτ h
    | true => exact (fail_run h).elim
  | entry x => exact op_entry hR hτ h
  | typeAssert x t u ok => exact op_typeAssert hE hR hτ h
  | call c =>
    simp only at h
    split at h
    · rename_i b hb
      exact op_call_builtin hE hR hτ hn (o := ⟨dst, .call c, type, pos, after, guard⟩) rfl hb h
    · exact (fail_run h).elim
  | _ => exact (fail_run h).elim
theorem TR.dec {D : Den} (hD : DenOk D ι) (hτ : TR ι τ a) : TR ι (Go.Proofs.YtdiofapingdlmaaV.dec D τ) a := by
  intro t
  have h := hτ t
  unfold Go.Proofs.YtdiofapingdlmaaV.dec
  split
  · rename_i c hc
    rw [hc] at h
    cases hd : D c with
    | none => exact h
    | some v =>
      obtain ⟨p, h1, h2⟩ := hD _ _ hd
      generalize a.tmps.getD t undef = x' at h
      cases h with
      | sym g1 g2 => rw [h1] at g1; cases g1; rw [h2] at g2; cases g2; exact .int _ _
      | symS g1 g2 => rw [h1] at g1; cases g1; rw [h2] at g2; cases g2; exact .str _
  · exact h
theorem DenR.flat {D : Den} {v v' u : Value} (h : DenR D v v') (hu : Go.Proofs.YtdiofapingdlmaaV.VR ι v' u) : u = v' := by
  cases h <;> (cases hu; rfl)
theorem aop_sound (hE : EnvOk P E) (hR : Rel E.den N w0 ι σ w) (hτ : TR ι τ a) (hn : ∀ i, n ≤ i → i < n' → ι i = none) {o : Oper} (h : (aop E τ o).run n σ = some (v, n', d)) : Good E.den N w0 ι σ n n' v d ((execOp a.eval o).run P w) := by
  unfold aop at h
  split at h
  · rename_i z hz
    obtain ⟨rfl, rfl, rfl⟩ := ret_run h
    obtain ⟨v', d1, d2⟩ := hE.sop _ _ _ hz
    obtain ⟨nx, w', u, κ, h1, h2, h3, h4, h5, h6⟩ := aop0_sound hE hR (hτ.dec hR.den) hn (d2 n' σ)
    have e := d1.flat h6
    subst e
    exact ⟨nx, w', _, κ, h1, h2, h3, h4, h5, d1.VR h5.den⟩
  · exact aop0_sound hE hR hτ hn h
end
end Go.Proofs.YtdiofapingdlmaaV
/- The abstract machine: what an operation reads and writes; code, calls, regions. -/
set_option linter.unusedVariables false
set_option linter.unusedSimpArgs false
namespace Go.Proofs.YtdiofapingdlmaaV
open Go.RowKit
def Sub (σ τ : Store) : Prop := ∀ i o, σ i = some o → τ i = some o
theorem Sub.refl (σ : Store) : Sub σ σ := fun _ _ h => h
theorem Sub.app {σ τ : Store} (h : Sub σ τ) (d : Delta) : Sub (app d σ) (app d τ) := by
  induction d with
  | nil => exact h
  | cons x d ih =>
    obtain ⟨k, o⟩ := x
    intro i q e
    simp only [Go.Proofs.YtdiofapingdlmaaV.app] at e ⊢
    split at e
    · rw [if_pos ‹_›]; exact e
    · rw [if_neg ‹_›]; exact ih i q e
theorem T.mono {σ τ : Store} (hs : Sub σ τ) : ∀ {t : T} {n : Nat} {r : Value × Nat × Delta}, t.run n σ = some r → t.run n τ = some r := by
  intro t
  induction t with
  | fail => intro n r h; cases h
  | ret v d => intro n r h; exact h
  | get i k ih =>
    intro n r h
    obtain ⟨o, ho, h⟩ := get_run h
    simp only [T.run, hs i o ho]
    exact ih o h
  | fresh k ih => intro n r h; exact ih n h
inductive T.Wf : (Nat → Prop) → T → Prop
  | fail {S} : Wf S .fail
  | ret {S v d} (h : ∀ i ∈ keys d, S i) : Wf S (.ret v d)
  | get {S i k} (h : ∀ o, Wf (fun j => S j ∨ j = i) (k o)) : Wf S (.get i k)
  | fresh {S k} (h : ∀ n, Wf (fun j => S j ∨ j = n) (k n)) : Wf S (.fresh k)
theorem T.Wf.keys {t : T} {S : Nat → Prop} (hw : T.Wf S t) : ∀ {n n' : Nat} {σ : Store} {v : Value} {d : Delta}, t.run n σ = some (v, n', d) → n ≤ n' ∧ ∀ i ∈ Go.Proofs.YtdiofapingdlmaaV.keys d, S i ∨ (σ i).isSome = true ∨ (n ≤ i ∧ i < n') := by
  induction hw with
  | fail => intro n n' σ v d h; cases h
  | ret h => intro n n' σ v d hr; obtain ⟨rfl, rfl, rfl⟩ := ret_run hr; exact ⟨Nat.le_refl _, fun i hi => .inl (h i hi)⟩
  | @get S i k h ih =>
    intro n n' σ v d hr
    obtain ⟨o, ho, hr⟩ := get_run hr
    obtain ⟨h1, h2⟩ := ih o hr
    refine ⟨h1, fun j hj => ?_⟩
    rcases h2 j hj with (h | rfl) | h
    · exact .inl h
    · exact .inr (.inl (by rw [ho]; rfl))
    · exact .inr h
  | @fresh S k h ih =>
    intro n n' σ v d hr
    obtain ⟨h1, h2⟩ := ih n (fresh_run hr)
    refine ⟨by omega, fun j hj => ?_⟩
    rcases h2 j hj with (h | rfl) | h | h
    · exact .inl h
    · exact .inr (.inr ⟨Nat.le_refl _, by omega⟩)
    · exact .inr (.inl h)
    · exact .inr (.inr ⟨by omega, h.2⟩)
theorem wf_ev {S : Nat → Prop} {τ : Nat → Value} {x : Operand} {k : Value → T} (h : ∀ v, T.Wf S (k v)) : T.Wf S (ev τ x k) := by
  unfold ev; split
  · exact h _
  · exact .fail
theorem wf_evO {S : Nat → Prop} {τ : Nat → Value} {x : Option Operand} {k : Option Value → T} (h : ∀ v, T.Wf S (k v)) : T.Wf S (evO τ x k) := by
  unfold evO; split
  · exact h _
  · exact wf_ev fun v => h _
theorem wf_ret {S : Nat → Prop} {v : Value} : T.Wf S (.ret v []) := .ret (by intro i h; simp [keys] at h)
theorem wf_ofSem {S : Nat → Prop} {s : Sem Value} : T.Wf S (ofSem s) := by
  unfold ofSem; split
  · exact wf_ret
  · exact .fail
theorem wf_orFail {S : Nat → Prop} {s : Option Value} : T.Wf S (orFail s) := by
  unfold orFail; split
  · exact wf_ret
  · exact .fail
theorem wf_seen {S : Nat → Prop} {size : Nat} {v : Value} {k : List (List Value) → T} (h : ∀ (S' : Nat → Prop), (∀ i, S i → S' i) → ∀ xs, T.Wf S' (k xs)) : T.Wf S (seen size v k) := by
  unfold seen
  split
  · exact h S (fun _ h => h) _
  · split
    · exact h S (fun _ h => h) _
    · refine .get fun o => ?_
      split
      · exact h _ (fun _ h => .inl h) _
      · exact .fail
  · split
    · exact h S (fun _ h => h) _
    · exact .fail
  · exact .fail
theorem wf_newRow {S : Nat → Prop} {es : List (List Value)} {size t : Nat} {d : Delta} (h : ∀ i ∈ keys d, S i) : T.Wf S (newRowT es size t d) := by
  refine .fresh fun n => .ret fun i hi => ?_
  simp [keys] at hi
  rcases hi with rfl | hi
  · exact .inr rfl
  · exact .inl (h i (by simpa [keys] using hi))
theorem wf_newRow2 {S : Nat → Prop} {es : List (List Value)} {size t : Nat} {d : Delta} (h : ∀ i ∈ keys d, S i) : T.Wf S (newRow2T es size t d) := by
  refine .fresh fun n => .ret fun i hi => ?_
  simp [keys] at hi
  rcases hi with rfl | hi
  · exact .inr rfl
  · exact .inl (h i (by simpa [keys] using hi))
theorem wf_append23 {S : Nat → Prop} {elem j o len c : Nat} {i : TI} {xs : List (List Value)} : T.Wf S (aappend23 elem i j o len c xs) := by
  unfold aappend23
  split
  · split
    · exact wf_newRow2 (by intro i h; simp [keys] at h)
    · exact .fail
  · split
    · refine .get fun o => ?_
      split
      · exact wf_newRow2 (by intro i h; simp [keys] at h; exact .inr h)
      · exact .fail
    · exact .fail
theorem wf_append {S : Nat → Prop} {elem : Nat} {i : TI} {s : Value} {xs : List (List Value)} : T.Wf S (aappend elem i s xs) := by
  unfold aappend
  split
  · split
    · exact wf_ret
    · split
      · exact wf_newRow (by intro i h; simp [keys] at h)
      · exact .fail
  · split
    · exact wf_append23
    split
    · exact wf_ret
    · refine .get fun o => ?_
      split
      · exact .fail
      · split
        · exact wf_newRow (by intro i h; simp [keys] at h)
        · split
          · exact .fail
          · split
            · exact .ret (by intro i h; simp [keys] at h; exact .inr h)
            · exact wf_newRow (by intro i h; simp [keys] at h; exact .inr h)
  · exact .fail
theorem wf_copy {S : Nat → Prop} {size : Nat} {dst : Value} {n : Nat} {xs : List (List Value)} : T.Wf S (acopy size dst n xs) := by
  unfold acopy
  split
  · exact wf_ret
  · split
    · exact wf_ret
    · refine .get fun o => ?_
      split
      · exact .fail
      · exact .ret (by intro i h; simp [keys] at h; exact .inr h)
  · exact .fail
theorem wf_clear {S : Nat → Prop} {i : TI} {dst : Value} : T.Wf S (aclear i dst) := by
  unfold aclear
  split
  · exact wf_ret
  · exact wf_ret
  · split
    · exact wf_ret
    · refine .get fun o => ?_
      split
      · exact .fail
      · exact .ret (by intro i h; simp [keys] at h; exact .inr h)
  · exact .fail
theorem wf_str {S : Nat → Prop} {v : Value} : T.Wf S (astr v) := by
  unfold astr
  split
  · exact wf_ret
  · split
    · exact wf_ret
    · refine .get fun o => ?_
      split
      · split
        · exact wf_ret
        · exact .fail
      · exact .fail
  · exact .fail
theorem wf_slice23 {S : Nat → Prop} {ei : TI} {i o len c l h : Nat} {hi mx : Option Value} : T.Wf S (aslice23 ei i o len c l h hi mx) := by
  unfold aslice23
  repeat' first | exact wf_ret | exact .fail | (refine .get fun o => ?_) | split
theorem wf_slice {S : Nat → Prop} {E : Env} {t : Nat} {x : Value} {lo hi mx : Option Value} : T.Wf S (aslice E t x lo hi mx) := by
  unfold aslice
  repeat' first | exact wf_ret | exact .fail | exact wf_slice23 | (refine .get fun o => ?_) | split
theorem wf_slice2 {S : Nat → Prop} {E : Env} {t : Nat} {x : Value} {lo hi mx : Option Value} : T.Wf S (aslice2 E t x lo hi mx) := by
  unfold aslice2
  split
  · refine .fresh fun _ => ?_
    exact wf_ret
  · exact wf_slice
theorem wf_bin {S : Nat → Prop} {E : Env} {op : BinOp} {t : Nat} {x y : Value} : T.Wf S (abin E op t x y) := by
  unfold abin
  split
  · exact wf_orFail
  unfold abin0
  repeat' first | exact wf_ret | exact .fail | exact wf_ofSem | split
theorem wf_builtin {S : Nat → Prop} {E : Env} {b : Builtin} {ats : List Nat} {args : List Value} : T.Wf S (abuiltin E b ats args) := by
  unfold abuiltin
  repeat' first | exact wf_ret | exact .fail | exact wf_orFail | exact wf_clear | exact wf_append | exact wf_seen (fun _ _ _ => wf_append) | exact wf_seen (fun _ _ _ => wf_copy) | split
theorem wf_getM {S : Nat → Prop} {i : Nat} {k : MC → T} (h : ∀ (S' : Nat → Prop), (∀ j, S j → S' j) → S' i → ∀ m, T.Wf S' (k m)) : T.Wf S (getM i k) := by
  unfold getM
  refine .get fun ob => ?_
  split
  · exact h _ (fun j hj => .inl hj) (.inr rfl) _
  · exact .fail
theorem wf_amset {S : Nat → Prop} {E : Env} {t : Nat} {m k x : Value} : T.Wf S (amset E t m k x) := by
  unfold amset
  split
  · split
    · refine wf_getM fun S' hs hi m => ?_
      split
      · exact .ret (by intro j hj; simp [keys] at hj; subst hj; exact hi)
      · exact .fail
    · exact .fail
  · exact .fail
theorem wf_amget {S : Nat → Prop} {E : Env} {t : Nat} {m k : Value} {ok : Bool} : T.Wf S (amget E t m k ok) := by
  unfold amget
  split
  · exact wf_ret
  · split
    · refine wf_getM fun S' hs hi m => ?_
      split
      · split <;> exact wf_ret
      · exact .fail
    · exact .fail
  · exact .fail
theorem wf_arange {S : Nat → Prop} {E : Env} {t : Nat} {x : Value} : T.Wf S (arange E t x) := by
  unfold arange
  split
  · refine wf_getM fun S' hs hi m => ?_
    split
    · exact .fresh fun n => .ret (by intro j hj; simp [keys] at hj; exact .inr hj)
    · exact .fail
  · exact .fail
theorem wf_anext {S : Nat → Prop} {x : Value} : T.Wf S (anext x) := by
  unfold anext
  split
  · refine wf_getM fun S' hs hi m => ?_
    split
    · refine wf_getM fun S2 hs2 hi2 m2 => ?_
      split
      · split
        · split
          · exact wf_ret
          · exact .ret (by intro j hj; simp [keys] at hj; subst hj; exact hs2 _ hi)
          · exact .fail
        · exact .fail
      · exact .fail
    · exact .fail
  · exact .fail
theorem wf_aentry {S : Nat → Prop} {x : Value} : T.Wf S (aentry x) := by
  unfold aentry
  split
  · refine wf_getM fun S' hs hi m => ?_
    split
    · refine wf_getM fun S2 hs2 hi2 m2 => ?_
      split
      · split
        · split
          · split
            · exact wf_ret
            · exact .fail
          · exact .fail
        · exact .fail
      · exact .fail
    · exact .fail
  · exact .fail
theorem wf_aop0 {S : Nat → Prop} (E : Env) (τ : Nat → Value) (o : Oper) : T.Wf S (aop0 E τ o) := by
  unfold aop0
  split
  all_goals repeat' first
    | exact wf_ret
    | exact .fail
    | exact wf_orFail
    | exact wf_ofSem
    | exact wf_bin
    | exact wf_slice2
    | exact wf_str
    | exact wf_builtin
    | exact wf_amset
    | exact wf_amget
    | exact wf_arange
    | exact wf_anext
    | exact wf_aentry
    | exact wf_newRow (by intro i h; simp [keys] at h)
    | (refine wf_ev fun _ => ?_)
    | (refine wf_evO fun _ => ?_)
    | (refine .get fun _ => ?_)
    | (refine .fresh fun _ => ?_)
    | (refine .ret ?_; intro i h; simp [keys] at h; exact .inr h)
    | (dsimp only; split)
    | split
theorem wf_aop {S : Nat → Prop} (E : Env) (τ : Nat → Value) (o : Oper) : T.Wf S (aop E τ o) := by
  unfold aop
  split
  · exact wf_ret
  · exact wf_aop0 E τ o
end Go.Proofs.YtdiofapingdlmaaV
/- The abstract machine: steps, and regions in the order of the text. -/
set_option linter.unusedVariables false
set_option linter.unusedSimpArgs false
namespace Go.Proofs.YtdiofapingdlmaaV
open Go.RowKit
abbrev Tm := Nat → Value
def upd (τ : Tm) (dst : Option Nat) (v : Value) : Tm := match dst with
  | none => τ
  | some d => fun t => if t = d then v else τ t
def wantA (ops : Array Oper) (τ : Tm) (o : Oper) : Bool := match o.guard with
  | none => true
  | some (j, want) => match (ops[j]?).bind (·.dst) with
    | none => false
    | some t => match τ t with
      | .bool b => b == want
      | _ => false
abbrev CallRel := Nat → List Value → Nat → Store → Value → Nat → Delta → Prop
inductive Step (E : Env) (C : CallRel) (τ : Tm) (o : Oper) (n : Nat) (σ : Store) : Value → Nat → Delta → Prop
  | op {v n' d} (h : (aop E τ o).run n σ = some (v, n', d)) : Step E C τ o n σ v n' d
  | call {v n' d c f g first cap args} (ho : o.op = .call c) (hc : c.callee = .value f) (hf : args1 τ f = some (.func (.func g) first cap)) (ha : evL τ c.args.toList = some args) (h : C g (first.toList ++ args ++ cap.toList) n σ v n' d) : Step E C τ o n σ v n' d
def dstOk (m : Nat) (o : Oper) : Bool := match o.dst with
  | none => true
  | some d => Nat.blt d m
inductive Ops (E : Env) (C : CallRel) (ops : Array Oper) (m : Nat) : List Oper → Tm → Nat → Store → Tm → Nat → Delta → Prop
  | nil {τ n σ} : Ops E C ops m [] τ n σ τ n []
  | on {o rest τ n σ v n1 d1 τ' n' d2} (hw : wantA ops τ o = true) (hd : dstOk m o = true) (hs : Step E C τ o n σ v n1 d1) (hr : Ops E C ops m rest (upd τ o.dst v) n1 (app d1 σ) τ' n' d2) : Ops E C ops m (o :: rest) τ n σ τ' n' (d2 ++ d1)
  | off {o rest τ n σ τ' n' d} (hw : wantA ops τ o = false) (hd : dstOk m o = true) (hr : Ops E C ops m rest (upd τ o.dst undef) n σ τ' n' d) : Ops E C ops m (o :: rest) τ n σ τ' n' d
/-- What keys an execution may write. -/
def KeysOk (n n' : Nat) (σ : Store) (d : Delta) : Prop := n ≤ n' ∧ ∀ i ∈ keys d, (σ i).isSome = true ∨ (n ≤ i ∧ i < n')
/-- What stands at the end, in whatever memory. -/
def End (D : Den) (N : Nat) (w0 : World) (ι : Inj) (σ : Store) (n n' : Nat) (d : Delta) (κ : Inj) (w' : World) : Prop :=
  ι.le κ ∧ (∀ i, κ i ≠ ι i → n ≤ i ∧ i < n') ∧ Rel D N w0 κ (app d σ) w'
def Fresh (ι : Inj) (n n' : Nat) : Prop := ∀ i, n ≤ i → i < n' → ι i = none
def CallOk (P : Program) (D : Den) (C : CallRel) : Prop := ∀ f args n σ v n' d, C f args n σ v n' d → (∀ (as : Array Value) (w : World), (callFunc f as).run P w = .ok (.enter f as) w) ∧ KeysOk n n' σ d ∧
  ∀ (N : Nat) (w0 : World) (σ2 : Store) (ι : Inj) (w : World) (args' : List Value) (R : Ending → World → Prop), Sub σ σ2 → Rel D N w0 ι σ2 w → VRs ι args args' → Fresh ι n n' →
    (∀ κ w' v', End D N w0 ι σ2 n n' d κ w' → VR κ v v' → R (.returned v') w') → Calls P f ⟨args'⟩ w R
theorem keys_append (d e : Delta) : keys (d ++ e) = keys d ++ keys e := by simp [keys]
theorem app_isSome {d : Delta} {σ : Store} {i : Nat} (h : (app d σ i).isSome = true) : i ∈ keys d ∨ (σ i).isSome = true := by
  by_cases hi : i ∈ keys d
  · exact .inl hi
  · rw [app_off hi] at h; exact .inr h
theorem KeysOk.append {n n1 n' : Nat} {σ : Store} {d1 d2 : Delta} (h1 : KeysOk n n1 σ d1) (h2 : KeysOk n1 n' (app d1 σ) d2) : KeysOk n n' σ (d2 ++ d1) := by
  refine ⟨Nat.le_trans h1.1 h2.1, fun i hi => ?_⟩
  have k1 := h1.1
  have k2 := h2.1
  have first : i ∈ keys d1 → (σ i).isSome = true ∨ (n ≤ i ∧ i < n') := fun h => by
    rcases h1.2 i h with h | h
    · exact .inl h
    · exact .inr (by omega)
  rw [keys_append, List.mem_append] at hi
  rcases hi with hi | hi
  · rcases h2.2 i hi with h | h
    · rcases app_isSome h with h | h
      · exact first h
      · exact .inl h
    · exact .inr (by omega)
  · exact first hi
theorem TR_upd {ι : Inj} {τ : Tm} {a : Act} {v v' : Value} (h : TR ι τ a) (hv : VR ι v v') (dst : Option Nat) {m : Nat} (hm : a.tmps.size = m) (hd : ∀ d, dst = some d → d < m) : TR ι (upd τ dst v) (a.put dst v') := by
  cases dst with
  | none => exact h
  | some d =>
    intro t
    have := hd d rfl
    simp only [upd, Act.put]
    by_cases ht : t = d
    · subst ht
      rw [if_pos rfl]
      have : (a.tmps.setIfInBounds t v').getD t undef = v' := by simp [hm, this]
      rw [this]; exact hv
    · rw [if_neg ht]
      have : (a.tmps.setIfInBounds d v').getD t undef = a.tmps.getD t undef := by
        simp [Array.getElem?_setIfInBounds_ne (fun e => ht e.symm)]
      rw [this]; exact h t
theorem put_size (a : Act) (dst : Option Nat) (v : Value) : (a.put dst v).tmps.size = a.tmps.size := by cases dst <;> simp [Act.put]
theorem put_defers (a : Act) (dst : Option Nat) (v : Value) : (a.put dst v).defers = a.defers := by cases dst <;> rfl
theorem dstOk_lt {m : Nat} {o : Oper} (h : dstOk m o = true) : ∀ d, o.dst = some d → d < m := by
  intro d hd
  simp only [dstOk, hd] at h
  exact Nat.le_of_ble_eq_true h
theorem TR.mono {ι κ : Inj} {τ : Tm} {a : Act} (h : TR ι τ a) (hk : ι.le κ) : TR κ τ a := fun t => (h t).mono hk
theorem want_run {ι : Inj} {τ : Tm} {a : Act} (h : TR ι τ a) (ops : Array Oper) (o : Oper) : Region.wanted o (yielded ops a.tmps) = wantA ops τ o := by
  unfold Region.wanted wantA
  cases o.guard with
  | none => rfl
  | some g =>
    obtain ⟨j, want⟩ := g
    simp only
    unfold yielded
    cases hd : (ops[j]?).bind (·.dst) with
    | none => rfl
    | some t =>
      simp only [Option.bind_some]
      have ht := h t
      rw [Array.getD_eq_getD_getElem?] at ht
      cases ha : a.tmps[t]? with
      | none =>
        rw [ha] at ht
        simp only [Option.getD_none, undef] at ht
        generalize τ t = x at ht
        cases ht
        rfl
      | some y =>
        rw [ha] at ht
        simp only [Option.getD_some] at ht
        generalize τ t = x at ht
        cases ht <;> first | rfl | (rename_i b; cases b <;> cases want <;> rfl)
section
variable {P : Program} {E : Env} {C : CallRel} {ι : Inj} {N : Nat} {w0 w : World}
theorem Step.keysOk (hC : CallOk P E.den C) {τ : Tm} {o : Oper} {n n' : Nat} {σ : Store} {v : Value} {d : Delta} (h : Step E C τ o n σ v n' d) : KeysOk n n' σ d := by
  cases h with
  | op h =>
    obtain ⟨h1, h2⟩ := (wf_aop (S := fun _ => False) E τ o).keys h
    exact ⟨h1, fun i hi => (h2 i hi).resolve_left id⟩
  | call ho hc hf ha h => exact (hC _ _ _ _ _ _ _ h).2.1
/-- One operation. -/
theorem Step.sound (hE : EnvOk P E) (hC : CallOk P E.den C) {τ : Tm} {o : Oper} {n n' : Nat} {σ σ2 : Store} {v : Value} {d : Delta} (h : Step E C τ o n σ v n' d) (hs : Sub σ σ2) (hR : Rel E.den N w0 ι σ2 w) {a : Act} (hτ : TR ι τ a) (hf : Fresh ι n n') {K : Act → World → Prop} {Q : Exit → Act → World → Prop}
    (hK : ∀ κ w' v', End E.den N w0 ι σ2 n n' d κ w' → VR κ v v' → K (a.put o.dst v') w') : o.wp P a w K Q := by
  cases h with
  | op h =>
    obtain ⟨nx, w', v', κ, h1, h2, h3, h4, h5, h6⟩ := aop_sound hE hR hτ hf (T.mono hs h)
    unfold Oper.wp
    rw [h1]
    rcases h2 with rfl | ⟨rfl, rfl⟩
    · exact hK κ w' v' ⟨h3, h4, h5⟩ h6
    · exact hK κ w' undef ⟨h3, h4, h5⟩ h6
  | @call c f g first cap args ho hc hf' ha h =>
    have hv := args1_sound hτ hf'
    have hl := evL_sound hτ ha
    generalize hfe : a.eval f = fv at hv
    cases hv with
    | @func _ fa fa' fb fb' h1 h2 =>
      have e : c.args.map a.eval = ⟨c.args.toList.map a.eval⟩ := by apply Array.ext'; simp
      obtain ⟨k0, k1, k2⟩ := hC _ _ _ _ _ _ _ h
      have hex : (execOp a.eval o).run P w = (callFunc g ((⟨fa'⟩ : Array Value) ++ ⟨c.args.toList.map a.eval⟩ ++ ⟨fb'⟩)).run P w := by
        unfold execOp
        rw [ho]
        simp only [resolve, hc, hfe, Deferred.ofValue, e, Sem.run_bind, Sem.run_pure, Result.andThen_ok, invoke]
      have hargs : ((⟨fa'⟩ : Array Value) ++ ⟨c.args.toList.map a.eval⟩ ++ ⟨fb'⟩) = ⟨fa' ++ c.args.toList.map a.eval ++ fb'⟩ := by apply Array.ext'; simp
      have hcalls := k2 N w0 σ2 ι w (fa' ++ c.args.toList.map a.eval ++ fb') (fun e w'' => match e with
        | .returned v' => K (a.put o.dst v') w''
        | .panicked chain => Q (.panic chain) a w''
        | .outgrown => LetsOut Q) hs hR ((h1.append hl).append h2) hf (fun κ w' v' hend hv => hK κ w' v' hend hv)
      unfold Oper.wp
      rw [hex, hargs]
      rw [k0]
      show Calls P g _ w _
      refine hcalls.mono fun e w'' he => ?_
      cases e <;> exact he
end
end Go.Proofs.YtdiofapingdlmaaV
/- The abstract machine: a region whose order is drawn. -/
set_option linter.unusedVariables false
set_option linter.unusedSimpArgs false
namespace Go.Proofs.YtdiofapingdlmaaV
open Go.RowKit
/-! ### What an operation waits for -/
def dd : List Nat → List Nat
  | [] => []
  | x :: l => if (dd l).contains x then dd l else x :: dd l
theorem mem_dd {x : Nat} : ∀ {l : List Nat}, x ∈ dd l → x ∈ l
  | [], h => by simp [dd] at h
  | y :: l, h => by
    unfold dd at h
    split at h
    · exact List.mem_cons_of_mem _ (mem_dd h)
    · rcases List.mem_cons.1 h with rfl | h
      · exact List.mem_cons_self ..
      · exact List.mem_cons_of_mem _ (mem_dd h)
def row (o : Oper) (acc : List (List Nat)) : List Nat := dd (o.after.toList.flatMap fun e => if Region.binds .any e then e.on :: acc.getD e.on [] else [])
def tab : List Oper → List (List Nat) → List (List Nat)
  | [], acc => acc
  | o :: r, acc => tab r (acc ++ [row o acc])
def B (ops : Array Oper) (j : Nat) : List Nat := (tab ops.toList []).getD j []
theorem tab_pre : ∀ (l : List Oper) (acc : List (List Nat)) (k : Nat), k < acc.length → (tab l acc).getD k [] = acc.getD k []
  | [], acc, k, h => rfl
  | o :: r, acc, k, h => by
    unfold tab
    rw [tab_pre r _ k (by simp; omega)]
    simp only [List.getD_eq_getElem?_getD]
    rw [List.getElem?_append_left h]
theorem tab_at : ∀ (l : List Oper) (acc : List (List Nat)) (k : Nat) (o : Oper), l[k]? = some o → ∀ i ∈ (tab l acc).getD (acc.length + k) [], ∃ e ∈ o.after, Region.binds .any e = true ∧ (i = e.on ∨ (e.on < acc.length + k ∧ i ∈ (tab l acc).getD e.on []))
  | [], acc, k, o, h, i, hi => by simp at h
  | o' :: r, acc, 0, o, h, i, hi => by
    simp at h; subst h
    unfold tab at hi ⊢
    rw [Nat.add_zero, tab_pre _ _ _ (by simp)] at hi
    simp only [List.getD_eq_getElem?_getD] at hi
    rw [List.getElem?_append_right (Nat.le_refl _), Nat.sub_self] at hi
    simp at hi
    have := mem_dd hi
    rw [List.mem_flatMap] at this
    obtain ⟨e, he, hie⟩ := this
    refine ⟨e, by simpa using he, ?_⟩
    split at hie
    · rename_i hb
      refine ⟨hb, ?_⟩
      rcases List.mem_cons.1 hie with h | h
      · exact .inl h
      · right
        have hlt : e.on < acc.length := by
          rcases Nat.lt_or_ge e.on acc.length with h' | h'
          · exact h'
          · simp [List.getD_eq_getElem?_getD, List.getElem?_eq_none h'] at h
        refine ⟨by omega, ?_⟩
        rw [tab_pre _ _ _ (by simp; omega)]
        simp only [List.getD_eq_getElem?_getD] at h ⊢
        rw [List.getElem?_append_left hlt]
        exact h
    · simp at hie
  | o' :: r, acc, k + 1, o, h, i, hi => by
    unfold tab at hi ⊢
    have := tab_at r (acc ++ [row o' acc]) k o (by simpa using h) i (by
      have e : (acc ++ [row o' acc]).length + k = acc.length + (k + 1) := by simp; omega
      rw [e]; exact hi)
    obtain ⟨e, he, hb, hor⟩ := this
    refine ⟨e, he, hb, hor.imp id fun ⟨h1, h2⟩ => ⟨by simp at h1; omega, h2⟩⟩
theorem B_spec {ops : Array Oper} {j : Nat} {o : Oper} (h : ops[j]? = some o) {i : Nat} (hi : i ∈ B ops j) : ∃ e ∈ o.after, Region.binds .any e = true ∧ (i = e.on ∨ (e.on < j ∧ i ∈ B ops e.on)) := by
  have := tab_at ops.toList [] j o (by simpa using h) i (by simpa [B] using hi)
  simpa [B] using this
def parOk (ops : Array Oper) : Bool :=
  (List.range ops.size).all fun j => match ops[j]? with
    | none => false
    | some o => (o.after.toList.all fun e => !Region.binds .any e || Nat.blt e.on j) &&
      ((List.range j).all fun i => (B ops j).contains i || match ops[i]? with
        | none => false
        | some oi => oi.apart ops o)
theorem parOk_edges {ops : Array Oper} (h : parOk ops = true) {j : Nat} {o : Oper} (hj : ops[j]? = some o) : ∀ e ∈ o.after, Region.binds .any e = true → e.on < j := by
  intro e he hb
  have hlt : j < ops.size := (Array.getElem?_eq_some_iff.1 hj).1
  have h1 := List.all_eq_true.1 h j (List.mem_range.2 hlt)
  rw [hj] at h1
  simp only [Bool.and_eq_true] at h1
  have h2 := List.all_eq_true.1 h1.1 e (by simpa using he)
  simp only [hb, Bool.not_true, Bool.false_or] at h2
  exact Nat.le_of_ble_eq_true h2
theorem parOk_apart {ops : Array Oper} (h : parOk ops = true) {i j : Nat} {oi oj : Oper} (hi : ops[i]? = some oi) (hj : ops[j]? = some oj) (hij : i < j) (hn : i ∉ B ops j) : oi.apart ops oj = true := by
  have hlt : j < ops.size := (Array.getElem?_eq_some_iff.1 hj).1
  have h1 := List.all_eq_true.1 h j (List.mem_range.2 hlt)
  rw [hj] at h1
  simp only [Bool.and_eq_true] at h1
  have h2 := List.all_eq_true.1 h1.2 i (List.mem_range.2 hij)
  rw [hi] at h2
  simp only [Bool.or_eq_true, List.contains_iff_mem] at h2
  exact h2.resolve_left hn
theorem B_lt {ops : Array Oper} (h : parOk ops = true) : ∀ (j : Nat) {o : Oper}, ops[j]? = some o → ∀ i ∈ B ops j, i < j := by
  intro j
  induction j using Nat.strongRecOn with
  | _ j ih =>
    intro o hj i hi
    obtain ⟨e, he, hb, hor⟩ := B_spec hj hi
    have hlt := parOk_edges h hj e he hb
    rcases hor with rfl | ⟨_, h2⟩
    · exact hlt
    · have hes : e.on < ops.size := by have := (Array.getElem?_eq_some_iff.1 hj).1; omega
      have := ih e.on hlt (Array.getElem?_eq_getElem hes) i h2
      omega
/-! ### What stands when a part of the operations has come up -/
def selT (ops : Array Oper) (τ : Tm) (vs : Nat → Value) (S : Nat → Bool) : Nat → Tm
  | 0 => τ
  | j + 1 => if S j then upd (selT ops τ vs S j) ((ops[j]?).bind (·.dst)) (vs j) else selT ops τ vs S j
def selD (Ds : Nat → Delta) (S : Nat → Bool) : Nat → Delta
  | 0 => []
  | j + 1 => if S j then Ds j ++ selD Ds S j else selD Ds S j
theorem selT_congr {ops : Array Oper} {τ : Tm} {vs : Nat → Value} {S1 S2 : Nat → Bool} {t : Nat} : ∀ (L : Nat), (∀ i, i < L → (ops[i]?).bind (·.dst) = some t → S1 i = S2 i) → selT ops τ vs S1 L t = selT ops τ vs S2 L t
  | 0, _ => rfl
  | j + 1, h => by
    have ih := selT_congr (ops := ops) (τ := τ) (vs := vs) j fun i hi => h i (by omega)
    have hj := h j (by omega)
    unfold selT
    cases hd : (ops[j]?).bind (·.dst) with
    | none =>
      have e : ∀ x, upd x none (vs j) = x := fun _ => rfl
      simp only [e, ite_self]
      exact ih
    | some d =>
      by_cases hdt : d = t
      · subst hdt
        rw [hj hd]
        split
        · simp [upd]
        · exact ih
      · have e : ∀ x, upd x (some d) (vs j) t = x t := fun x => by simp only [upd]; rw [if_neg (fun e => hdt e.symm)]
        cases S1 j <;> cases S2 j <;> simp [e, ih]
theorem selD_congr {Ds : Nat → Delta} {S1 S2 : Nat → Bool} {σ : Store} {x : Nat} : ∀ (L : Nat), (∀ i, i < L → x ∈ keys (Ds i) → S1 i = S2 i) → app (selD Ds S1 L) σ x = app (selD Ds S2 L) σ x
  | 0, _ => rfl
  | j + 1, h => by
    have ih := selD_congr (Ds := Ds) (σ := σ) j fun i hi => h i (by omega)
    have hj := h j (by omega)
    unfold selD
    by_cases hk : x ∈ keys (Ds j)
    · rw [hj hk]
      split
      · rw [app_append, app_append]; exact app_on hk
      · exact ih
    · have e : ∀ d, app (Ds j ++ d) σ x = app d σ x := fun d => by rw [app_append, app_off hk]
      cases S1 j <;> cases S2 j <;> simp [e, ih]
def pick (S : Nat → Bool) (j : Nat) : Nat → Bool := fun i => if i = j then true else S i
/-- Which operations may come up on either side of operation j. -/
def loose (ops : Array Oper) (i j : Nat) : Bool := i != j && !(B ops j).contains i && !(B ops i).contains j
/-- The store that operation j is run on: what it waits for has come up; what may be written beside it is out of reach. -/
def restr (ops : Array Oper) (K : Nat → List Nat) (Ds : Nat → Delta) (σ : Store) (j : Nat) : Store := fun x =>
  if (List.range ops.size).any (fun i => loose ops i j && (K i).contains x) then none else app (selD Ds (fun i => (B ops j).contains i) j) σ x
def allB : Nat → Bool := fun _ => true
inductive Par (E : Env) (C : CallRel) (ops : Array Oper) (m : Nat) (τ : Tm) (n : Nat) (σ : Store) : Tm → Nat → Delta → Prop
  | mk (vs : Nat → Value) (ns : Nat → Nat) (Ds : Nat → Delta) (K : Nat → List Nat) (h0 : ns 0 = n) (hok : parOk ops = true) (hK : ∀ j, ∀ x ∈ keys (Ds j), x ∈ K j)
      (hst : ∀ j o, ops[j]? = some o → dstOk m o = true ∧ (if wantA ops (selT ops τ vs allB j) o = true then Step E C (selT ops τ vs allB j) o (ns j) (restr ops K Ds σ j) (vs j) (ns (j + 1)) (Ds j) else vs j = undef ∧ ns (j + 1) = ns j ∧ Ds j = [])) :
      Par E C ops m τ n σ (selT ops τ vs allB ops.size) (ns ops.size) (selD Ds allB ops.size)
theorem evL_congr {τ τ' : Tm} : ∀ {l : List Operand}, (∀ x ∈ l, args1 τ x = args1 τ' x) → evL τ l = evL τ' l
  | [], _ => rfl
  | x :: l, h => by simp only [evL, h x (by simp), evL_congr fun y hy => h y (List.mem_cons_of_mem _ hy)]
theorem evP_congr {τ τ' : Tm} : ∀ {l : List (Nat × Operand)}, (∀ x ∈ l, args1 τ x.2 = args1 τ' x.2) → evP τ l = evP τ' l
  | [], _ => rfl
  | (i, x) :: l, h => by simp only [evP, h (i, x) (by simp), evP_congr fun y hy => h y (List.mem_cons_of_mem _ hy)]
theorem aop0_congr {E : Env} {τ τ' : Tm} {o : Oper} (h : ∀ x ∈ o.op.operands, args1 τ x = args1 τ' x) : aop0 E τ o = aop0 E τ' o := by
  obtain ⟨dst, op, type, pos, after, guard⟩ := o
  have pairs : ∀ ps : Array (Nat × Operand), (∀ x ∈ (ps.toList.map (·.2)).toArray, args1 τ x = args1 τ' x) → evP τ ps.toList = evP τ' ps.toList := fun ps hp => evP_congr fun x hx => hp x.2 (by simp; exact ⟨x.1, by simpa using hx⟩)
  cases op <;> simp only [Op.operands] at h <;> simp only [aop0, ev]
  case build t ps => rw [pairs ps h]
  case buildSlice t n ps => rw [pairs ps h]
  case makeFunc fn first captured =>
    rw [evL_congr (l := first.toList) fun x hx => h x (by simp at hx ⊢; exact .inl hx), evL_congr (l := captured.toList) fun x hx => h x (by simp at hx ⊢; exact .inr hx)]
  case call c =>
    split
    · rename_i b hb
      rw [evL_congr (l := c.args.toList) fun x hx => h x (by simp [Call.operands]; exact .inr (by simpa using hx))]
    · rfl
  case slice t x lo hi mx =>
    have hx := h x (by simp)
    rw [hx]
    cases lo <;> cases hi <;> cases mx <;> simp only [evO, ev] <;> simp_all
  case makeMap t r => cases r <;> rfl
  case next x b =>
    cases b
    · simp only [h x (by simp)]
    · rfl
  all_goals first | rfl | (simp only [h _ (by simp)]; done) | (simp_all; done)
section
variable {P : Program} {E : Env} {C : CallRel} {ι : Inj} {N : Nat} {w0 w : World}
theorem ovals_congr {τ τ' : Tm} {o : Oper} (h : ∀ x ∈ o.op.operands, args1 τ x = args1 τ' x) : ovals τ o = ovals τ' o := by
  obtain ⟨dst, op, type, pos, after, guard⟩ := o
  cases op <;> simp only [Op.operands] at h <;> simp only [ovals]
  case index t x y => rw [h x (by simp), h y (by simp)]
  case binOp op t x y u => rw [h x (by simp), h y (by simp)]
  case slice t x lo hi mx =>
    cases mx with
    | some m => cases lo <;> cases hi <;> rfl
    | none => 
      cases lo with
      | none => cases hi with
        | none => rfl
        | some q => simp only [h x (by simp), h q (by simp)]
      | some l => cases hi with
        | none => simp only [h x (by simp), h l (by simp)]
        | some q => simp only [h x (by simp), h l (by simp), h q (by simp)]
  case call c =>
    rw [evL_congr (l := c.args.toList) fun x hx => h x (by simp [Call.operands]; exact .inr (by simpa using hx))]
theorem aop_congr {E : Env} {τ τ' : Tm} {o : Oper} (h : ∀ x ∈ o.op.operands, args1 τ x = args1 τ' x) : aop E τ o = aop E τ' o := by
  unfold aop sop
  rw [ovals_congr h, aop0_congr h]
theorem Step.congr {τ τ' : Tm} {o : Oper} {n n' : Nat} {σ : Store} {v : Value} {d : Delta} (h : Step E C τ o n σ v n' d) (hc : ∀ x ∈ o.op.operands, args1 τ x = args1 τ' x) : Step E C τ' o n σ v n' d := by
  cases h with
  | op h => exact .op (by rw [← aop_congr hc]; exact h)
  | @call c f g first cap args ho hcc hf ha h =>
    have hops : o.op.operands = #[f] ++ c.args := by rw [ho]; simp [Op.operands, Call.operands, hcc]
    refine .call ho hcc (by rw [← hc f (by rw [hops]; simp)]; exact hf) (by rw [← evL_congr fun x hx => hc x (by rw [hops]; simp; exact .inr (by simpa using hx))]; exact ha) h
theorem want_congr {ops : Array Oper} {τ τ' : Tm} {o : Oper} (h : ∀ g u t, o.guard = some (g, u) → (ops[g]?).bind (·.dst) = some t → τ t = τ' t) : wantA ops τ o = wantA ops τ' o := by
  unfold wantA
  cases hg : o.guard with
  | none => rfl
  | some gu =>
    obtain ⟨g, u⟩ := gu
    simp only
    cases hd : (ops[g]?).bind (·.dst) with
    | none => rfl
    | some t => simp only [h g u t hg hd]
/-- The numbers in a region. -/
structure ParOk (ops : Array Oper) (n : Nat) (σ : Store) (ns : Nat → Nat) (Ds : Nat → Delta) (K : Nat → List Nat) : Prop where
  ok : parOk ops = true
  inK : ∀ j, ∀ x ∈ Go.Proofs.YtdiofapingdlmaaV.keys (Ds j), x ∈ K j
  mono : ∀ j, j < ops.size → ns j ≤ ns (j + 1)
  keys : ∀ j, j < ops.size → ∀ x ∈ Go.Proofs.YtdiofapingdlmaaV.keys (Ds j), (restr ops K Ds σ j x).isSome = true ∨ (ns j ≤ x ∧ x < ns (j + 1))
theorem ParOk.le {ops : Array Oper} {n : Nat} {σ : Store} {ns : Nat → Nat} {Ds : Nat → Delta} {K : Nat → List Nat} (h : ParOk ops n σ ns Ds K) : ∀ {i j : Nat}, i ≤ j → j ≤ ops.size → ns i ≤ ns j := by
  intro i j hij
  induction hij with
  | refl => intro _; exact Nat.le_refl _
  | @step j _ ih => intro hj; exact Nat.le_trans (ih (by omega)) (h.mono j (by omega))
theorem loose_symm {ops : Array Oper} {i j : Nat} (h : loose ops i j = true) : loose ops j i = true := by
  simp only [loose, Bool.and_eq_true, bne_iff_ne, Bool.not_eq_true'] at h ⊢
  exact ⟨⟨h.1.1.symm, h.2⟩, h.1.2⟩
theorem restr_none {ops : Array Oper} {K : Nat → List Nat} {Ds : Nat → Delta} {σ : Store} {i j x : Nat} (hi : i < ops.size) (hl : loose ops i j = true) (hx : x ∈ K i) : restr ops K Ds σ j x = none := by
  unfold restr
  rw [if_pos]
  rw [List.any_eq_true]
  exact ⟨i, List.mem_range.2 hi, by simp [hl, hx]⟩
/-- What two loose operations write is apart. -/
theorem ParOk.apart {ops : Array Oper} {n : Nat} {σ : Store} {ns : Nat → Nat} {Ds : Nat → Delta} {K : Nat → List Nat} (h : ParOk ops n σ ns Ds K) {i j x : Nat} (hi : i < ops.size) (hj : j < ops.size) (hl : loose ops i j = true) (hx : x ∈ Go.Proofs.YtdiofapingdlmaaV.keys (Ds i)) : x ∉ Go.Proofs.YtdiofapingdlmaaV.keys (Ds j) := by
  intro hx2
  have r1 := restr_none (σ := σ) (Ds := Ds) hi hl (h.inK i x hx)
  have r2 := restr_none (σ := σ) (Ds := Ds) hj (loose_symm hl) (h.inK j x hx2)
  rcases h.keys i hi x hx with h1 | h1
  · rw [r2] at h1; cases h1
  · rcases h.keys j hj x hx2 with h2 | h2
    · rw [r1] at h2; cases h2
    · have hne : i ≠ j := by
        simp only [loose, Bool.and_eq_true, bne_iff_ne] at hl; exact hl.1.1
      rcases Nat.lt_or_gt_of_ne hne with hlt | hgt
      · have := h.le (i := i + 1) (j := j) hlt (by omega); omega
      · have := h.le (i := j + 1) (j := i) hgt (by omega); omega
theorem ParOk.old {ops : Array Oper} {n : Nat} {σ : Store} {ns : Nat → Nat} {Ds : Nat → Delta} {K : Nat → List Nat} (h : ParOk ops n σ ns Ds K) (h0 : ns 0 = n) : ∀ j, j < ops.size → ∀ x ∈ Go.Proofs.YtdiofapingdlmaaV.keys (Ds j), (σ x).isSome = true ∨ (n ≤ x ∧ x < ns ops.size) := by
  intro j
  induction j using Nat.strongRecOn with
  | _ j ih =>
    intro hj x hx
    have a1 := h.le (i := 0) (j := j) (Nat.zero_le _) (by omega)
    have a2 := h.le (i := j + 1) (j := ops.size) hj (Nat.le_refl _)
    rcases h.keys j hj x hx with h1 | h1
    · have h2 : (app (selD Ds (fun i => (B ops j).contains i) j) σ x).isSome = true := by
        unfold restr at h1
        split at h1
        · cases h1
        · exact h1
      have key : ∀ L, L ≤ j → (app (selD Ds (fun i => (B ops j).contains i) L) σ x).isSome = true → (σ x).isSome = true ∨ ∃ i, i < L ∧ x ∈ Go.Proofs.YtdiofapingdlmaaV.keys (Ds i) := by
        intro L
        induction L with
        | zero => intro _ h; exact .inl h
        | succ L ihL =>
          intro hL h
          unfold selD at h
          split at h
          · rw [app_append] at h
            rcases app_isSome h with h | h
            · exact .inr ⟨L, by omega, h⟩
            · exact (ihL (by omega) h).imp id fun ⟨i, h1, h2⟩ => ⟨i, by omega, h2⟩
          · exact (ihL (by omega) h).imp id fun ⟨i, h1, h2⟩ => ⟨i, by omega, h2⟩
      rcases key j (Nat.le_refl _) h2 with h3 | ⟨i, hi, h3⟩
      · exact .inl h3
      · exact ih i hi (by omega) x h3
    · exact .inr (by omega)
theorem selD_keys {Ds : Nat → Delta} {S : Nat → Bool} {x : Nat} : ∀ {L : Nat}, x ∈ keys (selD Ds S L) → ∃ i, i < L ∧ S i = true ∧ x ∈ keys (Ds i)
  | 0, h => by simp [selD, keys] at h
  | L + 1, h => by
    unfold selD at h
    split at h
    · rename_i hs
      rw [keys_append, List.mem_append] at h
      rcases h with h | h
      · exact ⟨L, by omega, hs, h⟩
      · obtain ⟨i, h1, h2⟩ := selD_keys h; exact ⟨i, by omega, h2⟩
    · obtain ⟨i, h1, h2⟩ := selD_keys h; exact ⟨i, by omega, h2⟩
theorem selT_pick {ops : Array Oper} {τ : Tm} {vs : Nat → Value} {S : Nat → Bool} {j : Nat} : ∀ (L : Nat), j < L → S j = false → (∀ i, i < L → j < i → S i = true → ∀ d, (ops[i]?).bind (·.dst) = some d → (ops[j]?).bind (·.dst) ≠ some d) → selT ops τ vs (pick S j) L = upd (selT ops τ vs S L) ((ops[j]?).bind (·.dst)) (vs j)
  | 0, h, _, _ => by omega
  | L + 1, h, hS, hd => by
    by_cases hL : j = L
    · subst hL
      have e : ∀ M, M ≤ j → selT ops τ vs (pick S j) M = selT ops τ vs S M := by
        intro M
        induction M with
        | zero => intro _; rfl
        | succ M ih =>
          intro hM
          unfold selT
          rw [ih (by omega)]
          simp [pick, show M ≠ j by omega]
      unfold selT
      rw [e j (Nat.le_refl _), hS]
      simp [pick]
    · have ih := selT_pick (ops := ops) (τ := τ) (vs := vs) L (by omega) hS fun i hi => hd i (by omega)
      unfold selT
      rw [ih]
      have hp : pick S j L = S L := by simp only [pick]; rw [if_neg (fun e => hL e.symm)]
      rw [hp]
      split
      · rename_i hSL
        cases hdj : (ops[j]?).bind (·.dst) with
        | none => rfl
        | some dj =>
          cases hdl : (ops[L]?).bind (·.dst) with
          | none => rfl
          | some dl =>
            have hne : dj ≠ dl := fun e => hd L (by omega) (by omega) hSL dl hdl (by rw [hdj, e])
            funext t
            simp only [upd]
            by_cases h1 : t = dl <;> by_cases h2 : t = dj
            · exact absurd (h2.symm.trans h1) hne
            · rw [if_pos h1, if_neg h2, if_pos h1]
            · rw [if_neg h1, if_pos h2, if_pos h2]
            · rw [if_neg h1, if_neg h2, if_neg h2, if_neg h1]
      · rfl
theorem selD_pick {Ds : Nat → Delta} {S : Nat → Bool} {σ : Store} {j : Nat} : ∀ (L : Nat), j < L → S j = false → (∀ i, i < L → j < i → S i = true → ∀ x ∈ keys (Ds i), x ∉ keys (Ds j)) → app (selD Ds (pick S j) L) σ = app (Ds j) (app (selD Ds S L) σ)
  | 0, h, _, _ => by omega
  | L + 1, h, hS, hd => by
    by_cases hL : j = L
    · subst hL
      have e : ∀ M, M ≤ j → selD Ds (pick S j) M = selD Ds S M := by
        intro M
        induction M with
        | zero => intro _; rfl
        | succ M ih =>
          intro hM
          unfold selD
          rw [ih (by omega)]
          simp [pick, show M ≠ j by omega]
      unfold selD
      rw [e j (Nat.le_refl _), hS]
      simp [pick, app_append]
    · have ih := selD_pick (Ds := Ds) (σ := σ) L (by omega) hS fun i hi => hd i (by omega)
      unfold selD
      have hp : pick S j L = S L := by simp only [pick]; rw [if_neg (fun e => hL e.symm)]
      rw [hp]
      split
      · rename_i hSL
        rw [app_append, ih, app_append]
        funext x
        by_cases h1 : x ∈ keys (Ds L)
        · have h2 := hd L (by omega) (by omega) hSL x h1
          rw [app_off h2, app_on (σ := app (Ds j) (app (selD Ds S L) σ)) (τ := app (selD Ds S L) σ) h1]
        · rw [app_off h1]
          by_cases h2 : x ∈ keys (Ds j)
          · exact app_on h2
          · rw [app_off h2, app_off h2, app_off h1]
      · exact ih
end
end Go.Proofs.YtdiofapingdlmaaV
/- The abstract machine: a region whose order is drawn is what its text says. -/
set_option linter.unusedVariables false
set_option linter.unusedSimpArgs false
namespace Go.Proofs.YtdiofapingdlmaaV
open Go.RowKit
section
variable {P : Program} {E : Env} {C : CallRel} {N : Nat} {w0 : World}
theorem getD_setB {l : Array Bool} {i j : Nat} (hi : i < l.size) : (l.setIfInBounds i true).getD j false = pick (fun k => l.getD k false) i j := by
  unfold pick
  by_cases h : j = i
  · subst h; simp [hi]
  · rw [if_neg h]; simp [Array.getElem?_setIfInBounds_ne (fun e => h e.symm)]
theorem looks_operand {ops : Array Oper} {o : Oper} {t : Nat} (h : Operand.tmp t ∈ o.op.operands) : t ∈ o.looksAt ops := by
  unfold Oper.looksAt
  exact List.mem_append_left _ (List.mem_filterMap.2 ⟨.tmp t, by simpa using h, rfl⟩)
theorem looks_guard {ops : Array Oper} {o : Oper} {g : Nat} {u : Bool} {t : Nat} (h : o.guard = some (g, u)) (hd : (ops[g]?).bind (·.dst) = some t) : t ∈ o.looksAt ops := by
  unfold Oper.looksAt
  refine List.mem_append_right _ ?_
  rw [h]
  simp only
  rw [hd]
  simp
theorem par_any (hE : EnvOk P E) (hC : CallOk P E.den C) {ops : Array Oper} {m n : Nat} {τ : Tm} {σ σ2 : Store} {ι : Inj} {vs : Nat → Value} {ns : Nat → Nat} {Ds : Nat → Delta} {K : Nat → List Nat} (hp : ParOk ops n σ ns Ds K) (h0 : ns 0 = n) (hsub : Sub σ σ2)
    (hst : ∀ j o, ops[j]? = some o → dstOk m o = true ∧ (if wantA ops (selT ops τ vs allB j) o = true then Step E C (selT ops τ vs allB j) o (ns j) (restr ops K Ds σ j) (vs j) (ns (j + 1)) (Ds j) else vs j = undef ∧ ns (j + 1) = ns j ∧ Ds j = []))
    {Q : Exit → Act → World → Prop}
    (hQ : ∀ κ w' a', End E.den N w0 ι σ2 n (ns ops.size) (selD Ds allB ops.size) κ w' → TR κ (selT ops τ vs allB ops.size) a' → a'.tmps.size = m → a'.defers = [] → Q .normal a' w') :
    ∀ (fuel : Nat) (l : Array Bool) (κ : Inj) (a : Act) (w : World), l.size = ops.size → ((List.range ops.size).filter fun i => !l.getD i false).length ≤ fuel →
      (∀ j o, ops[j]? = some o → l.getD j false = true → ∀ e ∈ o.after, Region.binds .any e = true → l.getD e.on false = true) →
      ι.le κ → (∀ i, κ i ≠ ι i → n ≤ i ∧ i < ns ops.size) → Rel E.den N w0 κ (app (selD Ds (fun k => l.getD k false) ops.size) σ2) w → TR κ (selT ops τ vs (fun k => l.getD k false) ops.size) a → a.tmps.size = m → a.defers = [] →
      (∀ j, j < ops.size → l.getD j false = false → Fresh κ (ns j) (ns (j + 1))) → wpAny P .any ops Q fuel l a w := by
  -- what is closed under the edges is closed under what waits
  have closed : ∀ (l : Array Bool), (∀ j o, ops[j]? = some o → l.getD j false = true → ∀ e ∈ o.after, Region.binds .any e = true → l.getD e.on false = true) → ∀ (j : Nat) (o : Oper), ops[j]? = some o → (∀ e ∈ o.after, Region.binds .any e = true → l.getD e.on false = true) → ∀ i ∈ B ops j, l.getD i false = true := by
    intro l hl j
    induction j using Nat.strongRecOn with
    | _ j ih =>
      intro o hj he i hi
      obtain ⟨e, hem, hb, hor⟩ := B_spec hj hi
      have h1 := he e hem hb
      rcases hor with rfl | ⟨hlt, h2⟩
      · exact h1
      · have hes : e.on < ops.size := by have := (Array.getElem?_eq_some_iff.1 hj).1; omega
        have hg := Array.getElem?_eq_getElem hes
        exact ih e.on hlt _ hg (hl _ _ hg h1) i h2
  -- where nothing is ready all has come up
  have allUp : ∀ (l : Array Bool), l.size = ops.size → Region.ready .any ops l = [] → ∀ j, j < ops.size → l.getD j false = true := by
    intro l hsz hr j
    induction j using Nat.strongRecOn with
    | _ j ih =>
      intro hj
      cases hv : l.getD j false with
      | true => rfl
      | false =>
        have hg := Array.getElem?_eq_getElem hj
        have : j ∈ Region.ready .any ops l := mem_ready.2 ⟨by
          have hjl : j < l.size := by omega
          simp [hjl] at hv ⊢; exact hv, _, hg, fun e he hb => ih e.on (parOk_edges hp.ok hg e he hb) (by have := parOk_edges hp.ok hg e he hb; omega)⟩
        rw [hr] at this; cases this
  have fin : ∀ (l : Array Bool) (κ : Inj) (a : Act) (w : World), l.size = ops.size → Region.ready .any ops l = [] → ι.le κ → (∀ i, κ i ≠ ι i → n ≤ i ∧ i < ns ops.size) → Rel E.den N w0 κ (app (selD Ds (fun k => l.getD k false) ops.size) σ2) w → TR κ (selT ops τ vs (fun k => l.getD k false) ops.size) a → a.tmps.size = m → a.defers = [] → Q .normal a w := by
    intro l κ a w hsz hr hle honly hR hT hm hdf
    have hall := allUp l hsz hr
    have e1 : selT ops τ vs (fun k => l.getD k false) ops.size = selT ops τ vs allB ops.size := by
      funext t
      exact selT_congr _ fun i hi _ => hall i hi
    have e2 : app (selD Ds (fun k => l.getD k false) ops.size) σ2 = app (selD Ds allB ops.size) σ2 := by
      funext x
      exact selD_congr _ fun i hi _ => hall i hi
    rw [e1] at hT
    rw [e2] at hR
    exact hQ κ w a ⟨hle, honly, hR⟩ hT hm hdf
  intro fuel
  induction fuel with
  | zero =>
    intro l κ a w hsz hc hcl hle honly hR hT hm hdf hfr
    have hr : Region.ready .any ops l = [] := by
      have hnil : ((List.range ops.size).filter fun i => !l.getD i false) = [] := List.eq_nil_of_length_eq_zero (by omega)
      refine List.eq_nil_iff_forall_not_mem.2 fun j hj => ?_
      obtain ⟨hun, o, ho, _⟩ := mem_ready.1 hj
      have hlt : j < ops.size := (Array.getElem?_eq_some_iff.1 ho).1
      have : j ∈ (List.range ops.size).filter fun i => !l.getD i false := List.mem_filter.2 ⟨List.mem_range.2 hlt, by
        have hjl : j < l.size := by omega
        simp [hjl] at hun ⊢; exact hun⟩
      rw [hnil] at this; cases this
    exact ⟨hr, fin l κ a w hsz hr hle honly hR hT hm hdf⟩
  | succ fuel ih =>
    intro l κ a w hsz hc hcl hle honly hR hT hm hdf hfr
    refine ⟨fun hr => fin l κ a w hsz hr hle honly hR hT hm hdf, fun j hj => ?_⟩
    obtain ⟨hun, o, ho, hedge⟩ := mem_ready.1 hj
    have hlt : j < ops.size := (Array.getElem?_eq_some_iff.1 ho).1
    have hjl : j < l.size := by omega
    have hlj : l.getD j false = false := by simp [hjl] at hun ⊢; exact hun
    have hBj := closed l hcl j o ho hedge
    -- what has come up and isn't waited for is loose
    have hloose : ∀ i, i < ops.size → i ≠ j → l.getD i false = true → i ∉ B ops j → loose ops i j = true := by
      intro i hi hij hli hni
      simp only [loose, Bool.and_eq_true, bne_iff_ne, Bool.not_eq_true', List.contains_eq_mem, decide_eq_false_iff_not]
      refine ⟨⟨hij, hni⟩, fun hji => ?_⟩
      have hg := Array.getElem?_eq_getElem hi
      have := closed l hcl i _ hg (hcl i _ hg hli) j hji
      rw [hlj] at this; cases this
    have hapart : ∀ i (oi : Oper), ops[i]? = some oi → loose ops i j = true → (∀ d, oi.dst = some d → d ∉ o.looksAt ops) ∧ (∀ d, oi.dst = some d → o.dst ≠ some d) := by
      intro i oi hoi hl
      simp only [loose, Bool.and_eq_true, bne_iff_ne, Bool.not_eq_true', List.contains_eq_mem, decide_eq_false_iff_not] at hl
      rcases Nat.lt_or_gt_of_ne hl.1.1 with h | h
      · have := Oper.apart_spec (parOk_apart hp.ok hoi ho h hl.1.2)
        exact ⟨this.1, this.2.1⟩
      · have := Oper.apart_spec (parOk_apart hp.ok ho hoi h hl.2)
        exact ⟨this.2.2, fun d hd ho' => this.2.1 d ho' hd⟩
    -- who writes what this operation looks at
    have hsame : ∀ t, t ∈ o.looksAt ops → selT ops τ vs allB j t = selT ops τ vs (fun k => l.getD k false) ops.size t := by
      intro t ht
      have e1 : selT ops τ vs allB j t = selT ops τ vs (fun k => decide (k < j)) ops.size t := by
        have hj' : ∀ M, j ≤ M → M ≤ ops.size → selT ops τ vs (fun k => decide (k < j)) M = selT ops τ vs (fun k => decide (k < j)) j := by
          intro M hM
          induction hM with
          | refl => intro _; rfl
          | @step M hM ihM =>
            intro hM2
            show (if decide (M < j) = true then _ else _) = _
            rw [if_neg (by simp at hM ⊢; omega)]
            exact ihM (by omega)
        rw [hj' ops.size (by omega) (Nat.le_refl _)]
        exact selT_congr j fun i hi _ => by simp [allB, hi]
      rw [e1]
      refine selT_congr _ fun i hi hd => ?_
      have hg := Array.getElem?_eq_getElem hi
      by_cases hij : i = j
      · subst hij
        rw [hlj]; simp
      · by_cases hb : i ∈ B ops j
        · have := B_lt hp.ok j ho i hb
          simp [this, hBj i hb]
        · cases hli : l.getD i false with
          | true =>
            have := (hapart i _ hg (hloose i hi hij hli hb)).1 t (by rw [hg] at hd; simpa using hd)
            exact absurd ht this
          | false =>
            by_cases hlt2 : i < j
            · have hl2 : loose ops i j = true := by
                simp only [loose, Bool.and_eq_true, bne_iff_ne, Bool.not_eq_true', List.contains_eq_mem, decide_eq_false_iff_not]
                exact ⟨⟨hij, hb⟩, fun h => by have := B_lt hp.ok i hg j h; omega⟩
              have := (hapart i _ hg hl2).1 t (by rw [hg] at hd; simpa using hd)
              exact absurd ht this
            · simp [hlt2]
    obtain ⟨hd, hs⟩ := hst j o ho
    -- the next part
    have next : ∀ (κ' : Inj) (w' : World) (v' : Value), κ.le κ' → (∀ i, κ' i ≠ κ i → ns j ≤ i ∧ i < ns (j + 1)) → Rel E.den N w0 κ' (app (Ds j) (app (selD Ds (fun k => l.getD k false) ops.size) σ2)) w' → VR κ' (vs j) v' → wpAny P .any ops Q fuel (l.setIfInBounds j true) (a.put o.dst v') w' := by
      intro κ' w' v' hle' honly' hR' hv'
      have hsetf : (fun k => (l.setIfInBounds j true).getD k false) = pick (fun k => l.getD k false) j := by
        funext k; exact getD_setB hjl
      have n1 := hp.le (i := 0) (j := j) (Nat.zero_le _) (by omega)
      have n2 := hp.le (i := j + 1) (j := ops.size) hlt (Nat.le_refl _)
      refine ih _ κ' _ w' (by simpa using hsz) ?_ ?_ (Inj.le_trans hle hle') (fun i hi => ?_) ?_ ?_ (by rw [put_size]; exact hm) (by rw [put_defers]; exact hdf) ?_
      · -- one less is left
        have hnd : (List.range ops.size).Nodup := List.nodup_range
        have hcount : ∀ (L : List Nat), L.Nodup → j ∈ L → (L.filter fun i => !(l.setIfInBounds j true).getD i false).length < (L.filter fun i => !l.getD i false).length := by
          intro L
          induction L with
          | nil => intro _ h; cases h
          | cons x L ihL =>
            intro hn hm
            rw [List.nodup_cons] at hn
            by_cases hx : x = j
            · subst hx
              have e : (L.filter fun i => !(l.setIfInBounds x true).getD i false) = L.filter fun i => !l.getD i false := by
                refine List.filter_congr fun i hi => ?_
                have : i ≠ x := fun e => hn.1 (e ▸ hi)
                rw [getD_setB hjl]
                simp [pick, this]
              rw [List.filter_cons_of_neg (by rw [getD_setB hjl]; simp [pick]), List.filter_cons_of_pos (by rw [hlj]; rfl), e]
              simp
            · have hmL : j ∈ L := (List.mem_cons.1 hm).resolve_left fun e => hx e.symm
              have := ihL hn.2 hmL
              have e : (l.setIfInBounds j true).getD x false = l.getD x false := by rw [getD_setB hjl]; simp [pick, hx]
              by_cases hb : l.getD x false = true
              · rw [List.filter_cons_of_neg (by rw [e, hb]; simp), List.filter_cons_of_neg (by rw [hb]; simp)]; exact this
              · have hb' : l.getD x false = false := by simpa using hb
                rw [List.filter_cons_of_pos (by rw [e, hb']; rfl), List.filter_cons_of_pos (by rw [hb']; rfl), List.length_cons, List.length_cons]
                omega
        have := hcount _ hnd (List.mem_range.2 hlt)
        omega
      · intro k ok hk hlk e he hb
        rw [getD_setB hjl] at hlk ⊢
        unfold pick at hlk ⊢
        split
        · rfl
        · split at hlk
          · rename_i hkj
            subst hkj
            rw [ho] at hk; cases hk
            exact hedge e he hb
          · exact hcl k ok hk hlk e he hb
      · by_cases hk : κ' i = κ i
        · rw [hk] at hi; exact honly i hi
        · have := honly' i hk; omega
      · rw [hsetf, selD_pick ops.size hlt hlj (fun i hi hji hSi x hx => hp.apart hi hlt (hloose i hi (by omega) hSi (fun hb => by have := B_lt hp.ok j ho i hb; omega)) hx)]
        exact hR'
      · rw [hsetf, selT_pick ops.size hlt hlj (fun i hi hji hSi d hdi => by
          have hg := Array.getElem?_eq_getElem hi
          have := (hapart i _ hg (hloose i hi (by omega) hSi (fun hb => by have := B_lt hp.ok j ho i hb; omega))).2 d (by rw [hg] at hdi; simpa using hdi)
          rw [ho]; simpa using this)]
        rw [ho]
        exact TR_upd (hT.mono hle') hv' o.dst hm (dstOk_lt hd)
      · intro k hk hlk
        rw [getD_setB hjl] at hlk
        unfold pick at hlk
        split at hlk
        · cases hlk
        · rename_i hkj
          intro i hi1 hi2
          by_cases hki : κ' i = κ i
          · rw [hki]; exact hfr k hk hlk i hi1 hi2
          · have := honly' i hki
            rcases Nat.lt_or_gt_of_ne hkj with h | h
            · have := hp.le (i := k + 1) (j := j) h (by omega); omega
            · have := hp.le (i := j + 1) (j := k) h (by omega); omega
    unfold wpOp
    rw [ho]
    simp only
    have hwant : wantA ops (selT ops τ vs allB j) o = wantA ops (selT ops τ vs (fun k => l.getD k false) ops.size) o := want_congr fun g u t hg hd => hsame t (looks_guard hg hd)
    rw [want_run hT ops o, ← hwant]
    split
    · rename_i hw
      rw [if_pos hw] at hs
      left
      have hs' := hs.congr (τ' := selT ops τ vs (fun k => l.getD k false) ops.size) fun x hx => by
        cases x with
        | tmp t => simp only [args1]; rw [hsame t (looks_operand hx)]
        | _ => rfl
      refine hs'.sound hE hC (fun x o' hx => ?_) hR hT (hfr j hlt hlj) fun κ' w' v' hend hv => next κ' w' v' hend.1 hend.2.1 hend.2.2 hv
      -- the restricted store lies in what stands
      unfold restr at hx
      split at hx
      · cases hx
      · rename_i hany
        have hno : ∀ i, i < ops.size → loose ops i j = true → x ∉ keys (Ds i) := by
          intro i hi hl hk
          exact hany (List.any_eq_true.2 ⟨i, List.mem_range.2 hi, by simp [hl, hp.inK i x hk]⟩)
        have e1 : app (selD Ds (fun i => (B ops j).contains i) j) σ2 x = some o' := hsub.app _ x o' hx
        have e2 : app (selD Ds (fun i => (B ops j).contains i) j) σ2 x = app (selD Ds (fun i => (B ops j).contains i) ops.size) σ2 x := by
          have hj' : ∀ M, j ≤ M → M ≤ ops.size → selD Ds (fun i => (B ops j).contains i) M = selD Ds (fun i => (B ops j).contains i) j := by
            intro M hM
            induction hM with
            | refl => intro _; rfl
            | @step M hM ihM =>
              intro hM2
              show (if (B ops j).contains M = true then _ else _) = _
              rw [if_neg (by
                simp only [List.contains_iff_mem]
                intro hb
                have := B_lt hp.ok j ho M hb
                simp at hM; omega)]
              exact ihM (by omega)
          rw [hj' ops.size (by omega) (Nat.le_refl _)]
        rw [← e1, e2]
        refine selD_congr _ fun i hi hk => ?_
        by_cases hij : i = j
        · subst hij
          rw [hlj]
          symm
          simp only [List.contains_eq_mem, decide_eq_false_iff_not]
          intro hb
          have := B_lt hp.ok i ho i hb; omega
        · by_cases hb : i ∈ B ops j
          · simp [hb, hBj i hb]
          · cases hli : l.getD i false with
            | true => exact absurd hk (hno i hi (hloose i hi hij hli hb))
            | false => simp [hb]
    · rename_i hw
      rw [if_neg hw] at hs
      obtain ⟨h1, h2, h3⟩ := hs
      have hR' : Rel E.den N w0 κ (app (Ds j) (app (selD Ds (fun k => l.getD k false) ops.size) σ2)) w := by rw [h3]; exact hR
      exact next κ w undef (Inj.le_refl _) (fun i hi => absurd rfl hi) hR' (by rw [h1]; exact undef_VR _)
/-- A region whose order is drawn. -/
theorem Par.sound (hE : EnvOk P E) (hC : CallOk P E.den C) {ops : Array Oper} {m n n' : Nat} {τ τ' : Tm} {σ σ2 : Store} {d : Delta} (h : Par E C ops m τ n σ τ' n' d) :
    KeysOk n n' σ d ∧ ∀ (ι : Inj) (w : World) (a : Act) (id : Nat) (Q : Exit → Act → World → Prop), Sub σ σ2 → Rel E.den N w0 ι σ2 w → TR ι τ a → a.tmps.size = m → a.defers = [] → Fresh ι n n' →
      (∀ κ w' a', End E.den N w0 ι σ2 n n' d κ w' → TR κ τ' a' → a'.tmps.size = m → a'.defers = [] → Q .normal a' w') → (Code.region id ops true).wp P Q a w := by
  cases h with
  | mk vs ns Ds K h0 hok hK hst =>
    have hp : ParOk ops n σ ns Ds K := by
      have keysStep : ∀ j, j < ops.size → KeysOk (ns j) (ns (j + 1)) (restr ops K Ds σ j) (Ds j) := by
        intro j hj
        obtain ⟨_, hs⟩ := hst j _ (Array.getElem?_eq_getElem hj)
        split at hs
        · exact hs.keysOk hC
        · rw [hs.2.1, hs.2.2]
          exact ⟨Nat.le_refl _, fun i hi => by simp [keys] at hi⟩
      exact ⟨hok, hK, fun j hj => (keysStep j hj).1, fun j hj => (keysStep j hj).2⟩
    refine ⟨⟨by rw [← h0]; exact hp.le (Nat.zero_le _) (Nat.le_refl _), fun i hi => ?_⟩, fun ι w a id Q hsub hR hT hm hdf hfr hQ' => ?_⟩
    · obtain ⟨j, hj, _, hx⟩ := selD_keys hi
      exact hp.old h0 j hj i hx
    · refine wp_region_any hE.mixed ?_
      have hz : ∀ k, (Array.replicate ops.size false).getD k false = false := fun k => by
        by_cases hk : k < ops.size <;> simp [hk]
      have e1 : selT ops τ vs (fun k => (Array.replicate ops.size false).getD k false) ops.size = τ := by
        have : ∀ L, selT ops τ vs (fun k => (Array.replicate ops.size false).getD k false) L = τ := by
          intro L
          induction L with
          | zero => rfl
          | succ L ih => unfold selT; rw [hz L, if_neg (by simp)]; exact ih
        exact this _
      have e2 : selD Ds (fun k => (Array.replicate ops.size false).getD k false) ops.size = [] := by
        have : ∀ L, selD Ds (fun k => (Array.replicate ops.size false).getD k false) L = [] := by
          intro L
          induction L with
          | zero => rfl
          | succ L ih => unfold selD; rw [hz L, if_neg (by simp)]; exact ih
        exact this _
      refine par_any hE hC hp h0 hsub hst hQ' ops.size _ ι a _ (by simp) ?_ (fun j o hj hl => by rw [hz j] at hl; cases hl) (Inj.le_refl _) (fun i hi => absurd rfl hi) ?_ (by rw [e1]; exact hT) hm hdf (fun j hj _ i hi1 hi2 => hfr i ?_ ?_)
      · exact Nat.le_trans (List.length_filter_le _ _) (by simp)
      · rw [e2]; exact hR.same rfl rfl rfl rfl
      · have := hp.le (i := 0) (j := j) (Nat.zero_le _) (by omega); omega
      · have := hp.le (i := j + 1) (j := ops.size) hj (Nat.le_refl _); omega
end
end Go.Proofs.YtdiofapingdlmaaV
/- The abstract machine: code and calls. -/
set_option linter.unusedVariables false
set_option linter.unusedSimpArgs false
namespace Go.Proofs.YtdiofapingdlmaaV
open Go.RowKit
inductive AX where
  | normal
  | exit (id : Nat)
  | ret
deriving DecidableEq
def AX.toExit : AX → Exit
  | .normal => .normal
  | .exit i => .exit i
  | .ret => .ret
def AX.inBlock (id : Nat) : AX → AX
  | .exit i => if i = id then .normal else .exit i
  | x => x
/-- Less is told: new objects that nobody asks for any more. -/
structure Less (n n' : Nat) (d0 d : Delta) : Prop where
  sub : ∀ x ∈ keys d, x ∈ keys d0 ∧ ∀ τ : Store, app d τ x = app d0 τ x
  gone : ∀ x ∈ keys d0, x ∈ keys d ∨ (n ≤ x ∧ x < n')
theorem Less.refl (n n' : Nat) (d : Delta) : Less n n' d d := ⟨fun x h => ⟨h, fun _ => rfl⟩, fun x h => .inl h⟩
theorem Less.keysOk {n n' : Nat} {σ : Store} {d0 d : Delta} (h : Less n n' d0 d) (k : KeysOk n n' σ d0) : KeysOk n n' σ d := ⟨k.1, fun i hi => k.2 i (h.sub i hi).1⟩
theorem Less.rel {D : Den} {n n' : Nat} {σ : Store} {d0 d : Delta} {N : Nat} {w0 w : World} {κ : Inj} (h : Less n n' d0 d) (hf : ∀ i, n ≤ i → i < n' → σ i = none) (hR : Rel D N w0 κ (app d0 σ) w) : Rel D N w0 κ (app d σ) w :=
  hR.less fun i o e => by
    by_cases hi : i ∈ keys d
    · rw [← (h.sub i hi).2 σ]; exact e
    · rw [app_off hi] at e
      by_cases h0 : i ∈ keys d0
      · rcases h.gone i h0 with h1 | h1
        · exact absurd h1 hi
        · rw [hf i h1.1 h1.2] at e; cases e
      · rw [app_off h0]; exact e
inductive Run (E : Env) (C : CallRel) (m : Nat) : Code → Tm → Nat → Store → AX → Tm → Nat → Delta → Prop
  | skip {τ n σ} : Run E C m .skip τ n σ .normal τ n []
  | region {id ops τ n σ τ' n' d} (h : Ops E C ops m ops.toList τ n σ τ' n' d) : Run E C m (.region id ops false) τ n σ .normal τ' n' d
  | par {id ops τ n σ τ' n' d} (h : Par E C ops m τ n σ τ' n' d) : Run E C m (.region id ops true) τ n σ .normal τ' n' d
  | seqN {a b τ n σ τ1 n1 d1 x τ' n' d2} (h1 : Run E C m a τ n σ .normal τ1 n1 d1) (h2 : Run E C m b τ1 n1 (app d1 σ) x τ' n' d2) : Run E C m (.seq a b) τ n σ x τ' n' (d2 ++ d1)
  | seqX {a b τ n σ x τ' n' d} (h1 : Run E C m a τ n σ x τ' n' d) (hx : x ≠ .normal) : Run E C m (.seq a b) τ n σ x τ' n' d
  | cond {c a b t τ n σ x τ' n' d} (hc : args1 τ c = some (.bool t)) (h : Run E C m (if t then a else b) τ n σ x τ' n' d) : Run E C m (.cond c a b) τ n σ x τ' n' d
  | block {id c τ n σ x τ' n' d} (h : Run E C m c τ n σ x τ' n' d) : Run E C m (.block id c) τ n σ (x.inBlock id) τ' n' d
  | loopN {c τ n σ τ1 n1 d1 x τ' n' d2} (h1 : Run E C m c τ n σ .normal τ1 n1 d1) (h2 : Run E C m (.loop c) τ1 n1 (app d1 σ) x τ' n' d2) : Run E C m (.loop c) τ n σ x τ' n' (d2 ++ d1)
  | loopX {c τ n σ x τ' n' d} (h1 : Run E C m c τ n σ x τ' n' d) (hx : x ≠ .normal) : Run E C m (.loop c) τ n σ x τ' n' d
  | exit {id τ n σ} : Run E C m (.exit id) τ n σ (.exit id) τ n []
  | ret {τ n σ} : Run E C m .ret τ n σ .ret τ n []
  | less {c τ n σ x τ' n' d0 d} (h : Run E C m c τ n σ x τ' n' d0) (hl : Less n n' d0 d) : Run E C m c τ n σ x τ' n' d
section
variable {P : Program} {E : Env} {C : CallRel} {N : Nat} {w0 : World}
theorem ops_sound (hE : EnvOk P E) (hC : CallOk P E.den C) {ops : Array Oper} {m : Nat} {l : List Oper} {τ τ' : Tm} {n n' : Nat} {σ : Store} {d : Delta} (h : Ops E C ops m l τ n σ τ' n' d) : KeysOk n n' σ d ∧
    ∀ (k : Nat) (σ2 : Store) (ι : Inj) (w : World) (a : Act) (Q : Exit → Act → World → Prop), l = ops.toList.drop k → Sub σ σ2 → Rel E.den N w0 ι σ2 w → TR ι τ a → a.tmps.size = m → a.defers = [] → Fresh ι n n' →
      (∀ κ w' a', End E.den N w0 ι σ2 n n' d κ w' → TR κ τ' a' → a'.tmps.size = m → a'.defers = [] → Q .normal a' w') → wpOps P ops Q (List.range' k (ops.size - k)) a w := by
  induction h with
  | @nil τ n σ =>
    refine ⟨⟨Nat.le_refl _, fun i hi => by simp [keys] at hi⟩, fun k σ2 ι w a Q hl hs hR hT hm hdf hf hQ => ?_⟩
    have : ops.size - k = 0 := by
      have := congrArg List.length hl
      simp at this; omega
    rw [this]
    exact hQ ι w a ⟨Inj.le_refl _, fun i h => absurd rfl h, hR⟩ hT hm hdf
  | @on o rest τ n σ v n1 d1 τ' n' d2 hw hd hs hr ih =>
    have k1 := hs.keysOk hC
    refine ⟨k1.append ih.1, fun k σ2 ι w a Q hl hsub hR hT hm hdf hf hQ => ?_⟩
    have hk : k < ops.size := by
      have := congrArg List.length hl
      simp at this; omega
    have hko : ops[k]? = some o := by
      have : (ops.toList.drop k)[0]? = some o := by rw [← hl]; rfl
      simpa using this
    have hrest : rest = ops.toList.drop (k + 1) := by
      have := congrArg List.tail hl
      simpa using this
    rw [show ops.size - k = (ops.size - (k + 1)) + 1 by omega, List.range'_succ, wpOps_cons]
    unfold wpOp
    rw [hko]
    simp only
    rw [want_run hT ops o, hw]
    simp only [if_true]
    left
    have b1 := k1.1
    have b2 := ih.1.1
    refine hs.sound hE hC hsub hR hT (fun i h1 h2 => hf i h1 (by omega)) fun κ w' v' hend hv => ?_
    refine ih.2 (k + 1) (app d1 σ2) κ w' _ Q hrest (hsub.app d1) hend.2.2 (TR_upd (hT.mono hend.1) hv o.dst hm (dstOk_lt hd)) (by rw [put_size]; exact hm) (by rw [put_defers]; exact hdf) (fun i h1 h2 => ?_) fun κ2 w2 a2 hend2 hT2 hm2 hdf2 => hQ κ2 w2 a2 ⟨Inj.le_trans hend.1 hend2.1, fun i hi => ?_, by rw [app_append]; exact hend2.2.2⟩ hT2 hm2 hdf2
    · by_cases hk : κ i = ι i
      · rw [hk]; exact hf i (by omega) h2
      · have := hend.2.1 i hk; omega
    · by_cases hk : κ2 i = κ i
      · rw [hk] at hi; have := hend.2.1 i hi; omega
      · have := hend2.2.1 i hk; omega
  | @off o rest τ n σ τ' n' d hw hd hr ih =>
    refine ⟨ih.1, fun k σ2 ι w a Q hl hsub hR hT hm hdf hf hQ => ?_⟩
    have hk : k < ops.size := by
      have := congrArg List.length hl
      simp at this; omega
    have hko : ops[k]? = some o := by
      have : (ops.toList.drop k)[0]? = some o := by rw [← hl]; rfl
      simpa using this
    have hrest : rest = ops.toList.drop (k + 1) := by
      have := congrArg List.tail hl
      simpa using this
    rw [show ops.size - k = (ops.size - (k + 1)) + 1 by omega, List.range'_succ, wpOps_cons]
    unfold wpOp
    rw [hko]
    simp only
    rw [want_run hT ops o, hw]
    simp only [Bool.false_eq_true, if_false]
    exact ih.2 (k + 1) σ2 ι w _ Q hrest hsub hR (TR_upd hT (undef_VR ι) o.dst hm (dstOk_lt hd)) (by rw [put_size]; exact hm) (by rw [put_defers]; exact hdf) hf hQ
/-- From a loop's head on. -/
def loopW (P : Program) (c : Code) (Q : Exit → Act → World → Prop) (a : Act) (w : World) : Prop :=
  ∀ (b : Frame) (k : List Item) (cs : List Frame), ∃ e a' w', Q e a' w' ∧ Arrives P (lone (b.at a (.code c :: .inLoop c :: k)) cs w) b k cs e a' w'
def cwp (P : Program) (c : Code) (Q : Exit → Act → World → Prop) (a : Act) (w : World) : Prop := match c with
  | .loop b => loopW P b Q a w
  | c => c.wp P Q a w
theorem cwp.wp {c : Code} {Q : Exit → Act → World → Prop} {a : Act} {w : World} (h : cwp P c Q a w) : c.wp P Q a w := by
  cases c with
  | loop c => exact fun b k cs => let ⟨e, a', w', q, r⟩ := h b k cs; ⟨e, a', w', q, .of_steps (.one step_loop) r⟩
  | _ => exact h
theorem loopW_next {c : Code} {Q : Exit → Act → World → Prop} {a : Act} {w : World} (h : c.wp P (Exit.then (loopW P c Q) Q) a w) : loopW P c Q a w := by
  intro b k cs
  obtain ⟨e, a₁, w₁, hq, harr⟩ := h b (.inLoop c :: k) cs
  cases e with
  | normal =>
    obtain ⟨e₂, a₂, w₂, hq₂, harr₂⟩ := hq b k cs
    exact ⟨e₂, a₂, w₂, hq₂, .of_steps (Steps.trans harr (.one step_inLoop)) harr₂⟩
  | exit id => exact ⟨_, a₁, w₁, hq, .pass (x := .inLoop c) rfl (fun _ _ => .inl (by simp)) harr⟩
  | goto l => exact ⟨_, a₁, w₁, hq, .pass (x := .inLoop c) rfl (fun _ _ => .inl (by simp)) harr⟩
  | ret => exact ⟨_, a₁, w₁, hq, .pass (x := .inLoop c) rfl (fun _ _ => .inl (by simp)) harr⟩
  | panic ch => exact ⟨_, a₁, w₁, hq, .pass (x := .inLoop c) rfl (fun _ _ => .inl (by simp)) harr⟩
  | outgrown => exact ⟨_, a₁, w₁, hq, .pass (x := .inLoop c) rfl (fun _ _ => .inl (by simp)) harr⟩
theorem rel_fresh {ι : Inj} {σ : Store} {w : World} {n n' : Nat} (hR : Rel E.den N w0 ι σ w) (hf : Fresh ι n n') : ∀ i, n ≤ i → i < n' → σ i = none := by
  intro i h1 h2
  cases h : σ i with
  | none => rfl
  | some o =>
    obtain ⟨p, hp, _⟩ := hR.obj i o h
    rw [hf i h1 h2] at hp; cases hp
theorem run_sound (hE : EnvOk P E) (hC : CallOk P E.den C) {m : Nat} {c : Code} {τ τ' : Tm} {n n' : Nat} {σ : Store} {x : AX} {d : Delta} (h : Run E C m c τ n σ x τ' n' d) : KeysOk n n' σ d ∧
    ∀ (σ2 : Store) (ι : Inj) (w : World) (a : Act) (Q : Exit → Act → World → Prop), Sub σ σ2 → Rel E.den N w0 ι σ2 w → TR ι τ a → a.tmps.size = m → a.defers = [] → Fresh ι n n' →
      (∀ κ w' a', End E.den N w0 ι σ2 n n' d κ w' → TR κ τ' a' → a'.tmps.size = m → a'.defers = [] → Q x.toExit a' w') → cwp P c Q a w := by
  have nilK : ∀ {n : Nat} {σ : Store}, KeysOk n n σ [] := ⟨Nat.le_refl _, fun i hi => by simp [keys] at hi⟩
  have chain : ∀ {ι κ κ2 : Inj} {σ2 : Store} {n n1 n' : Nat} {d1 d2 : Delta} {w' w2 : World}, n ≤ n1 → n1 ≤ n' → End E.den N w0 ι σ2 n n1 d1 κ w' → End E.den N w0 κ (app d1 σ2) n1 n' d2 κ2 w2 → End E.den N w0 ι σ2 n n' (d2 ++ d1) κ2 w2 := by
    intro ι κ κ2 σ2 n n1 n' d1 d2 w' w2 b1 b2 h1 h2
    refine ⟨Inj.le_trans h1.1 h2.1, fun i hi => ?_, by rw [app_append]; exact h2.2.2⟩
    by_cases hk : κ2 i = κ i
    · rw [hk] at hi; have := h1.2.1 i hi; omega
    · have := h2.2.1 i hk; omega
  have fresh2 : ∀ {ι κ : Inj} {σ2 : Store} {n n1 n' : Nat} {d1 : Delta} {w' : World}, n ≤ n1 → Fresh ι n n' → End E.den N w0 ι σ2 n n1 d1 κ w' → Fresh κ n1 n' := by
    intro ι κ σ2 n n1 n' d1 w' b1 hf h1 i i1 i2
    by_cases hk : κ i = ι i
    · rw [hk]; exact hf i (by omega) i2
    · have := h1.2.1 i hk; omega
  induction h with
  | @skip τ n σ => exact ⟨nilK, fun σ2 ι w a Q hs hR hT hm hdf hf hQ => wp_skip (hQ ι w a ⟨Inj.le_refl _, fun i h => absurd rfl h, hR⟩ hT hm hdf)⟩
  | @exit id τ n σ => exact ⟨nilK, fun σ2 ι w a Q hs hR hT hm hdf hf hQ => wp_exit (hQ ι w a ⟨Inj.le_refl _, fun i h => absurd rfl h, hR⟩ hT hm hdf)⟩
  | @ret τ n σ => exact ⟨nilK, fun σ2 ι w a Q hs hR hT hm hdf hf hQ => wp_ret (hQ ι w a ⟨Inj.le_refl _, fun i h => absurd rfl h, hR⟩ hT hm hdf)⟩
  | @region id ops τ n σ τ' n' d h =>
    obtain ⟨k1, k2⟩ := ops_sound (N := N) (w0 := w0) hE hC h
    refine ⟨k1, fun σ2 ι w a Q hs hR hT hm hdf hf hQ => ?_⟩
    refine wp_region ?_
    rw [List.range_eq_range']
    exact k2 0 σ2 ι w a Q (by simp) hs hR hT hm hdf hf hQ
  | @par id ops τ n σ τ' n' d h =>
    have hs0 := Par.sound (N := N) (w0 := w0) (σ2 := σ) hE hC h
    refine ⟨hs0.1, fun σ2 ι w a Q hs hR hT hm hdf hf hQ => ?_⟩
    exact (Par.sound (N := N) (w0 := w0) (σ2 := σ2) hE hC h).2 ι w a id Q hs hR hT hm hdf hf hQ
  | @seqN a b τ n σ τ1 n1 d1 x τ' n' d2 h1 h2 ih1 ih2 =>
    have b1 := ih1.1.1
    have b2 := ih2.1.1
    refine ⟨ih1.1.append ih2.1, fun σ2 ι w act Q hs hR hT hm hdf hf hQ => ?_⟩
    refine wp_seq (ih1.2 σ2 ι w act _ hs hR hT hm hdf (fun i i1 i2 => hf i i1 (by omega)) fun κ w' a' hend hT' hm' hdf' => ?_).wp
    exact (ih2.2 (app d1 σ2) κ w' a' Q (hs.app d1) hend.2.2 hT' hm' hdf' (fresh2 b1 hf hend) fun κ2 w2 a2 hend2 => hQ κ2 w2 a2 (chain b1 b2 hend hend2)).wp
  | @seqX a b τ n σ x τ' n' d h1 hx ih =>
    refine ⟨ih.1, fun σ2 ι w act Q hs hR hT hm hdf hf hQ => ?_⟩
    refine wp_seq (ih.2 σ2 ι w act _ hs hR hT hm hdf hf fun κ w' a' hend hT' hm' hdf' => ?_).wp
    have := hQ κ w' a' hend hT' hm' hdf'
    cases x with
    | normal => exact absurd rfl hx
    | exit i => exact this
    | ret => exact this
  | @cond c a b t τ n σ x τ' n' d hc h ih =>
    refine ⟨ih.1, fun σ2 ι w act Q hs hR hT hm hdf hf hQ => ?_⟩
    have hv := args1_sound hT hc
    generalize hce : act.eval c = cv at hv
    cases hv
    exact wp_cond hce (ih.2 σ2 ι w act Q hs hR hT hm hdf hf hQ).wp
  | @block id c τ n σ x τ' n' d h ih =>
    refine ⟨ih.1, fun σ2 ι w act Q hs hR hT hm hdf hf hQ => ?_⟩
    refine wp_block (ih.2 σ2 ι w act _ hs hR hT hm hdf hf fun κ w' a' hend hT' hm' hdf' => ?_).wp
    have := hQ κ w' a' hend hT' hm' hdf'
    cases x with
    | normal => exact this
    | ret => exact this
    | exit i =>
      simp only [AX.inBlock] at this
      simp only [AX.toExit, Exit.inBlock]
      split
      · rename_i hi
        rw [if_pos hi] at this; exact this
      · rename_i hi
        rw [if_neg hi] at this; exact this
  | @loopN c τ n σ τ1 n1 d1 x τ' n' d2 h1 h2 ih1 ih2 =>
    have b1 := ih1.1.1
    have b2 := ih2.1.1
    refine ⟨ih1.1.append ih2.1, fun σ2 ι w act Q hs hR hT hm hdf hf hQ => ?_⟩
    refine loopW_next (ih1.2 σ2 ι w act _ hs hR hT hm hdf (fun i i1 i2 => hf i i1 (by omega)) fun κ w' a' hend hT' hm' hdf' => ?_).wp
    exact ih2.2 (app d1 σ2) κ w' a' Q (hs.app d1) hend.2.2 hT' hm' hdf' (fresh2 b1 hf hend) fun κ2 w2 a2 hend2 => hQ κ2 w2 a2 (chain b1 b2 hend hend2)
  | @loopX c τ n σ x τ' n' d h1 hx ih =>
    refine ⟨ih.1, fun σ2 ι w act Q hs hR hT hm hdf hf hQ => ?_⟩
    refine loopW_next (ih.2 σ2 ι w act _ hs hR hT hm hdf hf fun κ w' a' hend hT' hm' hdf' => ?_).wp
    have := hQ κ w' a' hend hT' hm' hdf'
    cases x with
    | normal => exact absurd rfl hx
    | exit i => exact this
    | ret => exact this
  | @less c τ n σ x τ' n' d0 d h hl ih =>
    refine ⟨hl.keysOk ih.1, fun σ2 ι w act Q hs hR hT hm hdf hf hQ => ?_⟩
    exact ih.2 σ2 ι w act Q hs hR hT hm hdf hf fun κ w' a' hend => hQ κ w' a' ⟨hend.1, hend.2.1, hl.rel (rel_fresh hR hf) hend.2.2⟩
/-! ### Calls -/
def res1 (E : Env) (τ : Tm) (σ : Store) : ResultVar → Option Value
  | .tmp t => some (τ t)
  | .cell a t => match τ a with
    | .pointer (some ⟨i, k, some j⟩) => match E.ty t, σ i with
      | some ti, some ob => match ob.es[k]? with
        | some e => if ((e.drop j).take ti.size).length = ti.size then mkv ti.d ((e.drop j).take ti.size) else none
        | none => none
      | _, _ => none
    | _ => none
def resL (E : Env) (τ : Tm) (σ : Store) : List ResultVar → Option (List Value)
  | [] => some []
  | r :: l => match res1 E τ σ r, resL E τ σ l with
    | some v, some vs => some (v :: vs)
    | _, _ => none
def one : List Value → Value
  | [v] => v
  | vs => .tuple ⟨vs⟩
def init (args : List Value) : Tm := fun t => args.getD t undef
def CallK (E : Env) : Nat → CallRel
  | 0 => fun _ _ _ _ _ _ _ => False
  | k + 1 => fun f args n σ v n' d => ∃ fn c x τ' d0 vs, E.fn f = some fn ∧ fn.body = some c ∧ args.length ≤ fn.ntmps ∧ Run E (CallK E k) fn.ntmps c (init args) n σ x τ' n' d0 ∧ (x = .normal ∨ x = .ret) ∧ resL E τ' (app d0 σ) fn.results.toList = some vs ∧ v = one vs ∧ Less n n' d0 d
theorem res1_run (hE : EnvOk P E) {ι : Inj} {σ σ2 : Store} {w : World} {τ : Tm} {a : Act} (hs : Sub σ σ2) (hR : Rel E.den N w0 ι σ2 w) (hT : TR ι τ a) {r : ResultVar} {v : Value} (h : res1 E τ σ r = some v) :
    ∃ v', ((match r with | .tmp t => pure (a.tmps.getD t undef) | .cell b t => do loadVar t (← asAddr (a.tmps.getD b undef)) : Sem Value)).run P w = .ok v' w ∧ VR ι v v' := by
  cases r with
  | tmp t => simp [res1] at h; subst h; exact ⟨_, rfl, hT t⟩
  | cell b t =>
    simp only [res1] at h
    have hb := hT b
    generalize hxb : a.tmps.getD b undef = x' at hb
    split at h
    · rename_i i k j hp
      rw [hp] at hb
      split at h
      · rename_i ti ob ht ho
        split at h
        · rename_i e he
          split at h
          · rename_i hl
            cases hb with
            | @ptr _ _ _ p hp =>
              obtain ⟨q, g1, g2, g3⟩ := hR.obj i ob (hs i ob ho)
              rw [hp] at g1; cases g1
              obtain ⟨c', h1, h2⟩ := seg_of g3 he j ti.size
              have hlen : c'.length = ti.size := by rw [← h1.length, hl]
              have hload := run_loadCells_list (P := P) w ⟨p.b, p.off + k * p.sz + j, none⟩ c' h2
              rw [hlen] at hload
              unfold mkv at h
              split at h
              · rename_i hagg
                cases h
                refine ⟨.agg ⟨c'⟩, ?_, .agg h1⟩
                simp only [hxb, asAddr, Sem.run_bind, Sem.run_pure, Result.andThen_ok, loadVar, isAgg_run hE w ht, hagg, if_true, size_run hE w ht, hload]
              · rename_i hagg
                split at h
                · rename_i y hy
                  cases h
                  rw [hy] at h1
                  cases h1 with
                  | @cons _ v' _ _ hv hs =>
                    cases hs
                    have hc := h2 0 v' rfl
                    rw [addr_add, Nat.add_zero] at hc
                    refine ⟨v', ?_, hv⟩
                    simp only [hxb, asAddr, Sem.run_bind, Sem.run_pure, Result.andThen_ok, loadVar, isAgg_run hE w ht, hagg, Bool.false_eq_true, if_false, run_load, hc]
                · cases h
          · cases h
        · cases h
      · cases h
    · cases h
theorem resL_run (hE : EnvOk P E) {ι : Inj} {σ σ2 : Store} {w : World} {τ : Tm} {a : Act} (hs : Sub σ σ2) (hR : Rel E.den N w0 ι σ2 w) (hT : TR ι τ a) {F : ResultVar → Sem Value} (hF : ∀ r, F r = (match r with | .tmp t => pure (a.tmps.getD t undef) | .cell b t => do loadVar t (← asAddr (a.tmps.getD b undef)))) : ∀ {l : List ResultVar} {vs : List Value}, resL E τ σ l = some vs →
    ∃ vs', (l.mapM F).run P w = .ok vs' w ∧ VRs ι vs vs'
  | [], vs, h => by simp [resL] at h; subst h; exact ⟨[], rfl, .nil⟩
  | r :: l, vs, h => by
    simp only [resL] at h
    split at h
    · rename_i v vs1 h1 h2
      cases h
      obtain ⟨v', e1, e2⟩ := res1_run hE hs hR hT h1
      obtain ⟨vs', f1, f2⟩ := resL_run hE hs hR hT hF h2
      rw [← hF r] at e1
      refine ⟨v' :: vs', ?_, .cons e2 f2⟩
      rw [List.mapM_cons]
      simp only [Sem.run_bind, e1, Result.andThen_ok, f1, Sem.run_pure]
    · cases h
theorem results_run (hE : EnvOk P E) {ι : Inj} {σ σ2 : Store} {w : World} {τ : Tm} {a : Act} (hs : Sub σ σ2) (hR : Rel E.den N w0 ι σ2 w) (hT : TR ι τ a) {fn : Func} {vs : List Value} (h : resL E τ σ fn.results.toList = some vs) :
    ∃ v', (results fn a.tmps).run P w = .ok v' w ∧ VR ι (one vs) v' := by
  unfold results
  rw [Array.mapM_eq_mapM_toList]
  simp only [Sem.run_bind, Sem.run_map, Sem.run_pure]
  generalize hF : (fun (r : ResultVar) => _ : ResultVar → Sem Value) = F
  obtain ⟨vs', h1, h2⟩ := resL_run hE hs hR hT (F := F) (fun r => by rw [← hF]; cases r <;> rfl) h
  simp only [h1, Result.andThen_ok]
  refine ⟨_, rfl, ?_⟩
  cases h2 with
  | nil => exact .tuple .nil
  | cons hv hs =>
    cases hs with
    | nil => exact hv
    | cons hv2 hs2 => exact .tuple (.cons hv (.cons hv2 hs2))
theorem VRs.init {ι : Inj} {l l' : List Value} (h : VRs ι l l') (k : Nat) : ∀ t, VR ι (Go.Proofs.YtdiofapingdlmaaV.init l t) (((⟨l'⟩ : Array Value) ++ Array.replicate k undef).getD t undef) := by
  intro t
  unfold Go.Proofs.YtdiofapingdlmaaV.init
  rw [Array.getD_eq_getD_getElem?, List.getD_eq_getElem?_getD]
  have hl := h.length
  by_cases ht : t < l.length
  · obtain ⟨v', h1, h2⟩ := h.get t _ (List.getElem?_eq_getElem ht)
    rw [List.getElem?_eq_getElem ht]
    rw [Array.getElem?_append_left (by show t < l'.length; omega)]
    have : (⟨l'⟩ : Array Value)[t]? = some v' := by simpa using h1
    rw [this]
    exact h2
  · rw [List.getElem?_eq_none (by omega)]
    rw [Array.getElem?_append_right (by show l'.length ≤ t; omega)]
    have : ∀ q, ((Array.replicate k undef)[q]?).getD undef = undef := fun q => by
      rw [Array.getElem?_replicate]; split <;> rfl
    rw [this]
    exact undef_VR ι
theorem callK_ok (hE : EnvOk P E) : ∀ k, CallOk P E.den (CallK E k)
  | 0 => fun _ _ _ _ _ _ _ h => h.elim
  | k + 1 => by
    intro f args n σ v n' d h
    obtain ⟨fn, c, x, τ', d0, vs, hf, hb, hl, hrun, hx, hres, rfl, hless⟩ := h
    have hC := callK_ok hE k
    obtain ⟨hP, hname⟩ := hE.fn f fn hf
    refine ⟨fun as w => ?_, ?_, ?_⟩
    · unfold callFunc
      simp only [Sem.run_bind, run_program, Result.andThen_ok, hP, hname, Bool.false_eq_true, if_false, hb, Option.isNone_some, Sem.run_pure]
    · exact hless.keysOk (run_sound (N := 0) (w0 := default) hE hC hrun).1
    · intro N w0 σ2 ι w args' R hs hR hargs hfr hK
      refine calls_of_wp hP hb ?_
      have hl' : args'.length ≤ fn.ntmps := by rw [← hargs.length]; exact hl
      refine ((run_sound (N := N) (w0 := w0) hE hC hrun).2 σ2 ι w { tmps := ⟨args'⟩ ++ Array.replicate (fn.ntmps - args'.length) undef, defers := [] } _ hs hR (hargs.init _) ?_ rfl hfr fun κ w' a' hend hT hm hdf => ?_).wp
      · simp; omega
      · obtain ⟨v', h1, h2⟩ := results_run hE (hs.app d0) hend.2.2 hT hres
        have := hK κ w' v' ⟨hend.1, hend.2.1, hless.rel (rel_fresh hR hfr) hend.2.2⟩ h2
        rcases hx with rfl | rfl <;> exact ⟨hdf, v', h1, this⟩
end
end Go.Proofs.YtdiofapingdlmaaV
/- The abstract machine, as a function that can be run. -/
set_option linter.unusedVariables false
set_option linter.unusedSimpArgs false
namespace Go.Proofs.YtdiofapingdlmaaV
open Go.RowKit
abbrev XC := Nat → List Value → Nat → Store → Option (Value × Nat × Delta)
def xstep (E : Env) (X : XC) (τ : Tm) (o : Oper) (n : Nat) (σ : Store) : Option (Value × Nat × Delta) :=
  match o.op with
  | .call c => match c.callee with
    | .value f => match args1 τ f with
      | some (.func (.func g) first cap) => match evL τ c.args.toList with
        | some args => X g (first.toList ++ args ++ cap.toList) n σ
        | none => none
      | _ => none
    | _ => (aop E τ o).run n σ
  | _ => (aop E τ o).run n σ
def xops (E : Env) (X : XC) (ops : Array Oper) (m : Nat) : List Oper → Tm → Nat → Store → Option (Tm × Nat × Delta)
  | [], τ, n, σ => some (τ, n, [])
  | o :: r, τ, n, σ => if dstOk m o = true then
      (if wantA ops τ o = true then match xstep E X τ o n σ with
        | some (v, n1, d1) => match xops E X ops m r (upd τ o.dst v) n1 (app d1 σ) with
          | some (τ', n', d2) => some (τ', n', d2 ++ d1)
          | none => none
        | none => none
      else xops E X ops m r (upd τ o.dst undef) n σ) else none
/-- The keys that each operation writes, in the order of the text. -/
def xkeys (E : Env) (X : XC) (ops : Array Oper) : List Oper → Tm → Nat → Store → Option (List (List Nat))
  | [], τ, n, σ => some []
  | o :: r, τ, n, σ =>
      if wantA ops τ o = true then match xstep E X τ o n σ with
        | some (v, n1, d1) => match xkeys E X ops r (upd τ o.dst v) n1 (app d1 σ) with
          | some l => some (keys d1 :: l)
          | none => none
        | none => none
      else match xkeys E X ops r (upd τ o.dst undef) n σ with
        | some l => some ([] :: l)
        | none => none
/-- Each operation at the store that it may see: values, numbers, what is written. -/
def xpar (E : Env) (X : XC) (ops : Array Oper) (m : Nat) (σ : Store) (K : List (List Nat)) : List Oper → Tm → Nat → List Delta → Option (List (Value × Nat × Delta))
  | [], τ, n, Ds => some []
  | o :: r, τ, n, Ds => if dstOk m o = true then
      (if wantA ops τ o = true then match xstep E X τ o n (restr ops (fun i => K.getD i []) (fun i => Ds.getD i []) σ Ds.length) with
        | some (v, n1, d1) => if (keys d1).all (fun x => (K.getD Ds.length []).contains x) = true then
            match xpar E X ops m σ K r (upd τ o.dst v) n1 (Ds ++ [d1]) with
            | some l => some ((v, n1, d1) :: l)
            | none => none
          else none
        | none => none
      else match xpar E X ops m σ K r (upd τ o.dst undef) n (Ds ++ [[]]) with
        | some l => some ((undef, n, []) :: l)
        | none => none) else none
def xloop (f : Tm → Nat → Store → Option (AX × Tm × Nat × Delta)) : Nat → Tm → Nat → Store → Option (AX × Tm × Nat × Delta)
  | 0, _, _, _ => none
  | k + 1, τ, n, σ => match f τ n σ with
    | some (.normal, τ1, n1, d1) => match xloop f k τ1 n1 (app d1 σ) with
      | some (x, τ', n', d2) => some (x, τ', n', d2 ++ d1)
      | none => none
    | some (.exit i, τ1, n1, d1) => some (.exit i, τ1, n1, d1)
    | some (.ret, τ1, n1, d1) => some (.ret, τ1, n1, d1)
    | none => none
/-- The same temporaries, as a table: what lies below a loop's rounds is looked up once. -/
def tabT (m : Nat) (τ : Tm) : Tm := fun t => match ((List.range m).map τ)[t]? with
  | some v => v
  | none => τ t
theorem tabT_eq (m : Nat) (τ : Tm) : tabT m τ = τ := by
  funext t
  unfold tabT
  by_cases h : t < m
  · simp [h]
  · simp [h]
def xrun (E : Env) (X : XC) (m F : Nat) : Code → Tm → Nat → Store → Option (AX × Tm × Nat × Delta)
  | .skip, τ, n, σ => some (.normal, τ, n, [])
  | .exit i, τ, n, σ => some (.exit i, τ, n, [])
  | .ret, τ, n, σ => some (.ret, τ, n, [])
  | .region _ ops false, τ, n, σ => match xops E X ops m ops.toList τ n σ with
    | some (τ', n', d) => some (.normal, τ', n', d)
    | none => none
  | .region _ ops true, τ, n, σ => if parOk ops = true then match xkeys E X ops ops.toList τ n σ with
    | some K => match xpar E X ops m σ K ops.toList τ n [] with
      | some l => some (.normal, selT ops τ (fun i => (l.getD i (undef, 0, [])).1) allB ops.size, ((n :: l.map (·.2.1)).getD ops.size 0), selD (fun i => (l.getD i (undef, 0, [])).2.2) allB ops.size)
      | none => none
    | none => none else none
  | .seq a b, τ, n, σ => match xrun E X m F a τ n σ with
    | some (.normal, τ1, n1, d1) => match xrun E X m F b τ1 n1 (app d1 σ) with
      | some (x, τ', n', d2) => some (x, τ', n', d2 ++ d1)
      | none => none
    | some (.exit i, τ1, n1, d1) => some (.exit i, τ1, n1, d1)
    | some (.ret, τ1, n1, d1) => some (.ret, τ1, n1, d1)
    | none => none
  | .cond c a b, τ, n, σ => match args1 τ c with
    | some (.bool true) => xrun E X m F a τ n σ
    | some (.bool false) => xrun E X m F b τ n σ
    | _ => none
  | .block id c, τ, n, σ => match xrun E X m F c τ n σ with
    | some (x, τ', n', d) => some (x.inBlock id, τ', n', d)
    | none => none
  | .loop c, τ, n, σ => xloop (fun τ n σ => xrun E X m F c (tabT m τ) n σ) F τ n σ
  | _, _, _, _ => none
def xcall (E : Env) (F : Nat) : Nat → XC
  | 0 => fun _ _ _ _ => none
  | k + 1 => fun f args n σ => match E.fn f with
    | some fn => match fn.body with
      | some c => if args.length ≤ fn.ntmps then match xrun E (xcall E F k) fn.ntmps F c (init args) n σ with
          | some (.exit _, _, _, _) => none
          | some (_, τ', n', d) => match resL E τ' (app d σ) fn.results.toList with
            | some vs => some (one vs, n', d)
            | none => none
          | none => none
        else none
      | none => none
    | none => none
section
variable {E : Env} {X : XC} {C : CallRel} (hX : ∀ f args n σ v n' d, X f args n σ = some (v, n', d) → C f args n σ v n' d)
include hX
theorem xstep_sound {τ : Tm} {o : Oper} {n n' : Nat} {σ : Store} {v : Value} {d : Delta} (h : xstep E X τ o n σ = some (v, n', d)) : Step E C τ o n σ v n' d := by
  unfold xstep at h
  split at h
  · rename_i c hc
    split at h
    · rename_i f hf
      split at h
      · rename_i g first cap hg
        split at h
        · rename_i args ha
          exact .call hc hf hg ha (hX _ _ _ _ _ _ _ h)
        · cases h
      · cases h
    · exact .op h
  · exact .op h
theorem xops_sound {ops : Array Oper} {m : Nat} : ∀ {l : List Oper} {τ τ' : Tm} {n n' : Nat} {σ : Store} {d : Delta}, xops E X ops m l τ n σ = some (τ', n', d) → Ops E C ops m l τ n σ τ' n' d
  | [], τ, τ', n, n', σ, d, h => by simp [xops] at h; obtain ⟨rfl, rfl, rfl⟩ := h; exact .nil
  | o :: r, τ, τ', n, n', σ, d, h => by
    unfold xops at h
    split at h
    · rename_i hd
      split at h
      · rename_i hw
        split at h
        · rename_i v n1 d1 hs
          split at h
          · rename_i τ2 n2 d2 hr
            cases h
            exact .on hw hd (xstep_sound hX hs) (xops_sound hr)
          · cases h
        · cases h
      · rename_i hw
        exact .off (by simpa using hw) hd (xops_sound h)
    · cases h
omit hX in
theorem selD_local {Ds Ds' : Nat → Delta} {S : Nat → Bool} : ∀ {L : Nat}, (∀ i, i < L → Ds i = Ds' i) → selD Ds S L = selD Ds' S L
  | 0, _ => rfl
  | L + 1, h => by
    unfold selD
    rw [selD_local (fun i hi => h i (by omega)), h L (by omega)]
omit hX in
theorem restr_local {ops : Array Oper} {K : Nat → List Nat} {Ds Ds' : Nat → Delta} {σ : Store} {j : Nat} (h : ∀ i, i < j → Ds i = Ds' i) : restr ops K Ds σ j = restr ops K Ds' σ j := by
  funext x
  unfold restr
  rw [selD_local h]
omit hX in
theorem selT_local {ops : Array Oper} {τ : Tm} {vs vs' : Nat → Value} {S : Nat → Bool} : ∀ {L : Nat}, (∀ i, i < L → vs i = vs' i) → selT ops τ vs S L = selT ops τ vs' S L
  | 0, _ => rfl
  | L + 1, h => by
    unfold selT
    rw [selT_local (fun i hi => h i (by omega)), h L (by omega)]
def tf (τ : Tm) : List Oper → List Value → Nat → Tm
  | o :: r, v :: vs, i + 1 => tf (upd τ o.dst v) r vs i
  | _, _, _ => τ
omit hX in
theorem tf_succ : ∀ {r : List Oper} {vs : List Value} {τ : Tm} {i : Nat}, i < r.length → i < vs.length → tf τ r vs (i + 1) = upd (tf τ r vs i) ((r[i]?).bind (·.dst)) (vs.getD i undef)
  | [], _, _, _, h, _ => by simp at h
  | _ :: _, [], _, _, _, h => by simp at h
  | o :: r, v :: vs, τ, 0, _, _ => by cases r <;> cases vs <;> rfl
  | o :: r, v :: vs, τ, i + 1, h1, h2 => by
    have := tf_succ (r := r) (vs := vs) (τ := upd τ o.dst v) (i := i) (by simpa using h1) (by simpa using h2)
    simp only [tf] at this ⊢
    rw [this]
    simp
omit hX in
theorem tf_sel {ops : Array Oper} {vs : List Value} {τ : Tm} (hl : vs.length = ops.size) : ∀ i, i ≤ ops.size → tf τ ops.toList vs i = selT ops τ (fun k => vs.getD k undef) allB i
  | 0, _ => by cases ops.toList <;> cases vs <;> rfl
  | i + 1, h => by
    rw [tf_succ (by simp; omega) (by omega), tf_sel hl i (by omega)]
    show _ = (if allB i = true then upd (selT ops τ (fun k => vs.getD k undef) allB i) ((ops[i]?).bind (·.dst)) (vs.getD i undef) else _)
    rw [if_pos (show allB i = true from rfl)]
    simp
theorem xpar_sound {ops : Array Oper} {m : Nat} {σ : Store} {K : List (List Nat)} : ∀ {r : List Oper} {τ : Tm} {n : Nat} {Ds : List Delta} {l : List (Value × Nat × Delta)}, xpar E X ops m σ K r τ n Ds = some l → l.length = r.length ∧
    ∀ (i : Nat) (o : Oper), r[i]? = some o → dstOk m o = true ∧
      (if wantA ops (tf τ r (l.map (·.1)) i) o = true then Step E C (tf τ r (l.map (·.1)) i) o ((n :: l.map (·.2.1)).getD i 0) (restr ops (fun q => K.getD q []) (fun q => (Ds ++ l.map (·.2.2)).getD q []) σ (Ds.length + i)) ((l.map (·.1)).getD i undef) ((n :: l.map (·.2.1)).getD (i + 1) 0) ((Ds ++ l.map (·.2.2)).getD (Ds.length + i) [])
        else (l.map (·.1)).getD i undef = undef ∧ (n :: l.map (·.2.1)).getD (i + 1) 0 = (n :: l.map (·.2.1)).getD i 0 ∧ (Ds ++ l.map (·.2.2)).getD (Ds.length + i) [] = []) ∧
      ∀ x ∈ keys ((Ds ++ l.map (·.2.2)).getD (Ds.length + i) []), x ∈ K.getD (Ds.length + i) []
  | [], τ, n, Ds, l, h => by simp [xpar] at h; subst h; exact ⟨rfl, fun i o ho => by simp at ho⟩
  | o :: r, τ, n, Ds, l, h => by
    unfold xpar at h
    split at h
    · rename_i hd
      split at h
      · rename_i hw
        split at h
        · rename_i v n1 d1 hs
          split at h
          · rename_i hk
            split at h
            · rename_i l' hl
              cases h
              obtain ⟨h1, h2⟩ := xpar_sound hl
              refine ⟨by simp [h1], fun i o' ho => ?_⟩
              cases i with
              | zero =>
                simp at ho; subst ho
                have e0 : tf τ (o :: r) ((( v, n1, d1) :: l').map (·.1)) 0 = τ := rfl
                have hdl : (Ds ++ ((v, n1, d1) :: l').map (·.2.2)).getD (Ds.length + 0) [] = d1 := by simp [List.getD_eq_getElem?_getD]
                refine ⟨hd, ?_, fun x hx => ?_⟩
                · rw [e0, if_pos hw, hdl]
                  have hr : restr ops (fun q => K.getD q []) (fun q => (Ds ++ ((v, n1, d1) :: l').map (·.2.2)).getD q []) σ (Ds.length + 0) = restr ops (fun q => K.getD q []) (fun q => Ds.getD q []) σ Ds.length :=
                    restr_local fun q hq => by simp only [List.getD_eq_getElem?_getD]; rw [List.getElem?_append_left (by simpa using hq)]
                  rw [hr]
                  exact xstep_sound hX hs
                · rw [hdl] at hx
                  have := List.all_eq_true.1 hk x hx
                  simpa using this
              | succ i =>
                have := h2 i o' (by simpa using ho)
                have e1 : Ds ++ [d1] ++ l'.map (·.2.2) = Ds ++ ((v, n1, d1) :: l').map (·.2.2) := by simp
                have e2 : (Ds ++ [d1]).length + i = Ds.length + (i + 1) := by simp; omega
                rw [e1, e2] at this
                exact this
            · cases h
          · cases h
        · cases h
      · rename_i hw
        split at h
        · rename_i l' hl
          cases h
          obtain ⟨h1, h2⟩ := xpar_sound hl
          refine ⟨by simp [h1], fun i o' ho => ?_⟩
          cases i with
          | zero =>
            simp at ho; subst ho
            have e0 : tf τ (o :: r) (((undef, n, ([] : Delta)) :: l').map (·.1)) 0 = τ := rfl
            have hdl : (Ds ++ ((undef, n, ([] : Delta)) :: l').map (·.2.2)).getD (Ds.length + 0) [] = [] := by simp [List.getD_eq_getElem?_getD]
            refine ⟨hd, ?_, fun x hx => ?_⟩
            · rw [e0, if_neg hw, hdl]
              exact ⟨rfl, rfl, rfl⟩
            · rw [hdl] at hx; simp [keys] at hx
          | succ i =>
            have := h2 i o' (by simpa using ho)
            have e1 : Ds ++ [([] : Delta)] ++ l'.map (·.2.2) = Ds ++ ((undef, n, ([] : Delta)) :: l').map (·.2.2) := by simp
            have e2 : (Ds ++ [([] : Delta)]).length + i = Ds.length + (i + 1) := by simp; omega
            rw [e1, e2] at this
            exact this
        · cases h
    · cases h
omit hX in
theorem xloop_sound {c : Code} {m : Nat} {f : Tm → Nat → Store → Option (AX × Tm × Nat × Delta)} (hf : ∀ τ n σ x τ' n' d, f τ n σ = some (x, τ', n', d) → Run E C m c τ n σ x τ' n' d) : ∀ {k : Nat} {τ τ' : Tm} {n n' : Nat} {σ : Store} {x : AX} {d : Delta}, xloop f k τ n σ = some (x, τ', n', d) → Run E C m (.loop c) τ n σ x τ' n' d
  | 0, _, _, _, _, _, _, _, h => by cases h
  | k + 1, τ, τ', n, n', σ, x, d, h => by
    unfold xloop at h
    split at h
    · rename_i τ1 n1 d1 h1
      split at h
      · rename_i x2 τ2 n2 d2 h2
        cases h
        exact .loopN (hf _ _ _ _ _ _ _ h1) (xloop_sound hf h2)
      · cases h
    · rename_i h1; cases h; exact .loopX (hf _ _ _ _ _ _ _ h1) (by simp)
    · rename_i h1; cases h; exact .loopX (hf _ _ _ _ _ _ _ h1) (by simp)
    · cases h
theorem xrun_sound {m F : Nat} : ∀ {c : Code} {τ τ' : Tm} {n n' : Nat} {σ : Store} {x : AX} {d : Delta}, xrun E X m F c τ n σ = some (x, τ', n', d) → Run E C m c τ n σ x τ' n' d := by
  intro c
  induction c with
  | skip => intro τ τ' n n' σ x d h; simp [xrun] at h; obtain ⟨rfl, rfl, rfl, rfl⟩ := h; exact .skip
  | exit i => intro τ τ' n n' σ x d h; simp [xrun] at h; obtain ⟨rfl, rfl, rfl, rfl⟩ := h; exact .exit
  | ret => intro τ τ' n n' σ x d h; simp [xrun] at h; obtain ⟨rfl, rfl, rfl, rfl⟩ := h; exact .ret
  | region id ops draw =>
    intro τ τ' n n' σ x d h
    cases draw with
    | false =>
      unfold xrun at h
      split at h
      · rename_i τ1 n1 d1 h1
        cases h
        exact .region (xops_sound hX h1)
      · cases h
    | true =>
      unfold xrun at h
      split at h
      · rename_i hok
        split at h
        · rename_i K hK
          split at h
          · rename_i l hl
            obtain ⟨h1, h2⟩ := xpar_sound hX hl
            have hlen : (l.map (·.1)).length = ops.size := by simp [h1]
            have hv : ∀ k, (l.map (·.1)).getD k undef = (l.getD k (undef, 0, [])).1 := fun k => by
              simp only [List.getD_eq_getElem?_getD, List.getElem?_map]
              cases l[k]? <;> rfl
            have hds : ∀ k, (([] : List Delta) ++ l.map (·.2.2)).getD k [] = (l.getD k (undef, 0, [])).2.2 := fun k => by
              simp only [List.nil_append, List.getD_eq_getElem?_getD, List.getElem?_map]
              cases l[k]? <;> rfl
            have hsel : ∀ i, i ≤ ops.size → tf τ ops.toList (l.map (·.1)) i = selT ops τ (fun k => (l.getD k (undef, 0, [])).1) allB i := fun i hi => by
              rw [tf_sel hlen i hi]
              exact selT_local fun k _ => hv k
            have hmk := Par.mk (E := E) (C := C) (ops := ops) (m := m) (τ := τ) (n := n) (σ := σ) (fun k => (l.getD k (undef, 0, [])).1) (fun k => (n :: l.map (·.2.1)).getD k 0) (fun k => (l.getD k (undef, 0, [])).2.2) (fun k => K.getD k []) rfl hok (fun j y hy => by
                by_cases hj : j < ops.size
                · have := (h2 j ops[j] (by simp [hj])).2.2 y (by simp only [List.length_nil, Nat.zero_add]; rw [hds j]; exact hy)
                  simpa using this
                · rw [List.getD_eq_getElem?_getD, List.getElem?_eq_none (by simp [h1]; omega)] at hy
                  simp [keys] at hy) (fun j o ho => by
                have hjs : j < ops.size := (Array.getElem?_eq_some_iff.1 ho).1
                obtain ⟨g1, g2, _⟩ := h2 j o (by simpa using ho)
                refine ⟨g1, ?_⟩
                simp only [List.length_nil, Nat.zero_add] at g2
                rw [hsel j (by omega)] at g2
                have hr : restr ops (fun q => K.getD q []) (fun q => (([] : List Delta) ++ l.map (·.2.2)).getD q []) σ j = restr ops (fun q => K.getD q []) (fun k => (l.getD k (undef, 0, [])).2.2) σ j := restr_local fun q _ => hds q
                rw [hr, hv j, hds j] at g2
                exact g2)
            cases h
            exact .par hmk
          · cases h
        · cases h
      · cases h
  | seq a b iha ihb =>
    intro τ τ' n n' σ x d h
    unfold xrun at h
    split at h
    · rename_i τ1 n1 d1 h1
      split at h
      · rename_i x2 τ2 n2 d2 h2
        cases h
        exact .seqN (iha h1) (ihb h2)
      · cases h
    · rename_i h1; cases h; exact .seqX (iha h1) (by simp)
    · rename_i h1; cases h; exact .seqX (iha h1) (by simp)
    · cases h
  | cond c a b iha ihb =>
    intro τ τ' n n' σ x d h
    unfold xrun at h
    split at h
    · rename_i hc; exact .cond hc (iha h)
    · rename_i hc; exact .cond hc (ihb h)
    · cases h
  | block id c ih =>
    intro τ τ' n n' σ x d h
    unfold xrun at h
    split at h
    · rename_i h1; cases h; exact .block (ih h1)
    · cases h
  | loop c ih =>
    intro τ τ' n n' σ x d h
    unfold xrun at h
    simp only [tabT_eq] at h
    exact xloop_sound (fun τ n σ x τ' n' d h => ih h) h
  | _ => intro τ τ' n n' σ x d h; simp [xrun] at h
omit hX in
theorem xcall_sound {F : Nat} : ∀ (k : Nat) {f : Nat} {args : List Value} {n n' : Nat} {σ : Store} {v : Value} {d : Delta}, xcall E F k f args n σ = some (v, n', d) → CallK E k f args n σ v n' d
  | 0, _, _, _, _, _, _, _, h => by cases h
  | k + 1, f, args, n, n', σ, v, d, h => by
    unfold xcall at h
    split at h
    · rename_i fn hf
      split at h
      · rename_i c hc
        split at h
        · rename_i hl
          have hX := fun f args n σ v n' d => xcall_sound (F := F) k (f := f) (args := args) (n := n) (n' := n') (σ := σ) (v := v) (d := d)
          split at h
          · cases h
          · rename_i x τ' n2 d2 hne hr
            split at h
            · rename_i vs hvs
              cases h
              refine ⟨fn, c, x, τ', _, vs, hf, hc, hl, xrun_sound hX hr, ?_, hvs, rfl, Less.refl _ _ _⟩
              cases x with
              | normal => exact .inl rfl
              | ret => exact .inr rfl
              | exit i => exact absurd rfl (hne i)
            · cases h
          · cases h
        · cases h
      · cases h
    · cases h
end
end Go.Proofs.YtdiofapingdlmaaV
/- The abstract machine: its tables, and a law's call. -/
set_option linter.unusedVariables false
set_option linter.unusedSimpArgs false
namespace Go.Proofs.YtdiofapingdlmaaV
open Go.RowKit
inductive Tr (α : Type) where
  | leaf
  | node (k : Nat) (v : α) (l r : Tr α)
def Tr.find {α : Type} : Tr α → Nat → Option α
  | .leaf, _ => none
  | .node k v l r, t => match Nat.beq t k with
    | true => some v
    | false => match Nat.blt t k with
      | true => l.find t
      | false => r.find t
def Tr.All {α : Type} (P : Nat → α → Prop) : Tr α → Prop
  | .leaf => True
  | .node k v l r => P k v ∧ l.All P ∧ r.All P
theorem Tr.find_all {α : Type} {P : Nat → α → Prop} : ∀ {T : Tr α}, T.All P → ∀ {t : Nat} {v : α}, T.find t = some v → P t v
  | .leaf, _, t, v, h => by cases h
  | .node k x l r, hA, t, v, h => by
    unfold Tr.find at h
    split at h
    · rename_i hk
      cases h
      have := Nat.eq_of_beq_eq_true hk
      subst this
      exact hA.1
    · split at h
      · exact Tr.find_all hA.2.1 h
      · exact Tr.find_all hA.2.2 h
def zOk (z : Value) (size : Nat) : Bool := match z with
  | .agg cs => cs.toList.all cl0 && cs.toList.length == size
  | z => cl0 z && size == 1
theorem cl0_one {v : Value} (h : cl0 v = true) : oneB v = true := by
  unfold cl0 at h
  split at h <;> first | rfl | cases h
theorem VRs_cl0 {ι : Inj} : ∀ {l : List Value}, l.all cl0 = true → VRs ι l l
  | [], _ => .nil
  | v :: l, h => by
    simp only [List.all_cons, Bool.and_eq_true] at h
    exact .cons (cl0_VR h.1 ι) (VRs_cl0 h.2)
theorem zOk_spec {z : Value} {size : Nat} (h : zOk z size = true) : (∀ ι, VR ι z z) ∧ (cellsL z).length = size ∧ (cellsL z).all oneB = true := by
  have all1 : ∀ {l : List Value}, l.all cl0 = true → l.all oneB = true := fun h => by
    rw [List.all_eq_true] at h ⊢
    exact fun x hx => cl0_one (h x hx)
  cases z with
  | agg cs =>
    simp only [zOk, Bool.and_eq_true, beq_iff_eq] at h
    obtain ⟨l⟩ := cs
    exact ⟨fun ι => .agg (VRs_cl0 h.1), h.2, all1 h.1⟩
  | _ =>
    simp only [zOk, Bool.and_eq_true, beq_iff_eq] at h
    exact ⟨fun ι => cl0_VR h.1 ι, by rw [h.2]; rfl, by simp [cellsL, Value.cells, cl0_one h.1]⟩
structure TyOk (P : Program) (t : Nat) (i : TI) : Prop where
  und : P.underlying t = some i.d
  inf : ∃ inf, P.info? t = some inf ∧ inf.zero = some i.zero ∧ inf.size = i.size ∧ inf.bytes = i.bytes
  z : zOk i.zero i.size = true
  eq : i.eqok = true → P.eqGuardType P.depth t = false ∧ P.stoodInHeld t = false
theorem TyOk.mk' {P : Program} {t : Nat} {i : TI} (h1 : P.underlying t = some i.d) (h2 : (P.info? t).map (fun x => (x.zero, x.size, x.bytes)) = some (some i.zero, i.size, i.bytes)) (h3 : zOk i.zero i.size = true) (h4 : i.eqok = false ∨ P.eqGuardType P.depth t = false ∧ P.stoodInHeld t = false) : TyOk P t i := by
  refine ⟨h1, ?_, h3, fun h => h4.resolve_left (by simp [h])⟩
  cases hi : P.info? t with
  | none => rw [hi] at h2; cases h2
  | some inf =>
    rw [hi] at h2
    simp at h2
    exact ⟨inf, rfl, h2.1, h2.2.1, h2.2.2⟩
def FnOk (P : Program) (f : Nat) (g : Func) : Prop := P.funcs[f]? = some g ∧ (g.name == "runtime.NumGoroutine") = false
def mkEnv (T : Tr TI) (F : Tr Func) : Env := { ty := T.find, fn := F.find }
theorem mkEnv_ok {P : Program} {T : Tr TI} {F : Tr Func} (hT : T.All (TyOk P)) (hF : F.All (FnOk P)) (hm : P.follows .mixedOrders = true) : EnvOk P (mkEnv T F) where
  ty t i h := ⟨(Tr.find_all hT h).und, (Tr.find_all hT h).inf⟩
  zero t i h := zOk_spec (Tr.find_all hT h).z
  eqok t i h := (Tr.find_all hT h).eq
  fn f g h := Tr.find_all hF h
  mixed := hm
  bin _ _ _ _ h := by cases h
  eqb _ _ _ h := by cases h
  un _ _ _ h := by cases h
  sop τ o v h := by
    unfold sop at h
    split at h
    · split at h <;> cases h
    · cases h
  cvt _ _ _ h := by cases h
/-! ### Numbers that are not known: codes, and a table of what the operations make of them -/
abbrev BRow := BinOp × Value × Value × Value
abbrev URow := UnOp × Value × Value
abbrev CRow := IntKind × Value × Value
def keyEq : Value → Value → Bool
  | .chan (some a), .chan (some b) => Nat.beq a b
  | .int k n, .int k' m => decide (k = k') && decide (n = m)
  | _, _ => false
def bfind : List BRow → BinOp → Value → Value → Option Value
  | [], _, _, _ => none
  | (o, a, b, v) :: r, op, x, y => if (decide (o = op) && keyEq a x && keyEq b y) = true then some v else bfind r op x y
def ufind : List URow → UnOp → Value → Option Value
  | [], _, _ => none
  | (o, a, v) :: r, op, x => if (decide (o = op) && keyEq a x) = true then some v else ufind r op x
def cfind : List CRow → IntKind → Value → Option Value
  | [], _, _ => none
  | (o, a, v) :: r, k, x => if (decide (o = k) && keyEq a x) = true then some v else cfind r k x
def allP {α : Type} (p : α → Prop) : List α → Prop
  | [] => True
  | x :: r => p x ∧ allP p r
abbrev SRow := Nat × BinOp × List Value × Value
def bytesEq : List UInt8 → List UInt8 → Bool
  | [], [] => true
  | a :: l, b :: m => Nat.beq a.toNat b.toNat && bytesEq l m
  | _, _ => false
def keyS : Value → Value → Bool
  | .nilFunc, .nilFunc => true
  | .string a, .string b => bytesEq a.data.toList b.data.toList
  | x, y => keyEq x y
def keysEq : List Value → List Value → Bool
  | [], [] => true
  | a :: l, b :: m => keyS a b && keysEq l m
  | _, _ => false
def sfindL : List SRow → Nat → BinOp → List Value → Option Value
  | [], _, _, _ => none
  | (k', o, l', v) :: r, k, op, l => if (Nat.beq k' k && decide (o = op) && keysEq l' l) = true then some v else sfindL r k op l
def Env.sym (E : Env) (D : Den) (bs : List BRow) (us : List URow) (cs : List CRow) (ss : List SRow := []) : Env := { ty := E.ty, fn := E.fn, den := D, bin := bfind bs, un := ufind us, cvt := cfind cs, sfind := sfindL ss }
def noDen : Den := fun _ => none
def noIds : Inj := fun _ => none
def noStore : Store := fun _ => none
theorem rel_none (W : World) : Rel noDen W.heap.size W noIds noStore W := { below := Below.refl _ _, size := Nat.le_refl _, obj := fun i o h => (by cases h), sep := fun i j o o' p p' h => (by cases h), den := fun c v h => (by cases h) }
end Go.Proofs.YtdiofapingdlmaaV
/- The abstract machine: what comes in. Whatever reads as data of a type is told by an abstract value over objects that are only read. -/
set_option linter.unusedVariables false
set_option linter.unusedSimpArgs false
namespace Go.Proofs.YtdiofapingdlmaaV
open Go Go.RowKit Go.ChangeShapes Go.WideShapes
structure At (N : Nat) (w0 : World) (ι : Inj) (σ : Store) (n : Nat) (w : World) : Prop where
  rel : Rel noDen N w0 ι σ w
  fresh : ∀ i, n ≤ i → ι i = none
  low : ∀ i, i < 1073741824 → ι i = none
  ge : 1073741824 ≤ n
theorem at_none (W : World) : At W.heap.size W noIds noStore 1073741824 W := ⟨rel_none W, fun _ _ => rfl, fun _ _ => rfl, Nat.le_refl _⟩
/-- What is told of cells; it stays when the store grows. -/
structure Gd where
  G : Store → List Value → Prop
  mono : ∀ {σ σ' : Store} {cs : List Value}, Sub σ σ' → G σ cs → G σ' cs
def Gd.int (k : IntKind) : Gd := ⟨fun _ cs => ∃ n, cs = [.int k n] ∧ (Lit.int k n).wf = true, fun _ h => h⟩
def Gd.bool : Gd := ⟨fun _ cs => ∃ b, cs = [.bool b], fun _ h => h⟩
def Gd.str : Gd := ⟨fun _ cs => ∃ s, cs = [.string s] ∧ s.size ≤ 9223372036854775807, fun _ h => h⟩
def gAll : List Gd → Store → List Value → Prop
  | [], _, cs => cs = []
  | g :: r, σ, cs => ∃ a b, cs = a ++ b ∧ g.G σ a ∧ gAll r σ b
theorem gAll_mono {σ σ' : Store} (hs : Sub σ σ') : ∀ {l : List Gd} {cs : List Value}, gAll l σ cs → gAll l σ' cs
  | [], _, h => h
  | g :: r, _, ⟨a, b, e, h1, h2⟩ => ⟨a, b, e, g.mono hs h1, gAll_mono hs h2⟩
def Gd.agg (l : List Gd) : Gd := ⟨gAll l, fun hs h => gAll_mono hs h⟩
/-- A slice that came in, and its elements. -/
inductive RowAt (σ : Store) (e sz : Nat) : Value → List (List Value) → Prop
  | nil : RowAt σ e sz (.slice none 0 0) []
  | zero : RowAt σ e sz (.slice (some ⟨0, 0, none⟩) 0 1) []
  | obj {i : Nat} {es : List (List Value)} (h : σ i = some ⟨es, sz, e, false⟩) : RowAt σ e sz (.slice (some ⟨i, 0, none⟩) es.length 0) es
theorem RowAt.mono {σ σ' : Store} (hs : Sub σ σ') {e sz : Nat} {v : Value} {es : List (List Value)} : RowAt σ e sz v es → RowAt σ' e sz v es
  | .nil => .nil
  | .zero => .zero
  | .obj h => .obj (hs _ _ h)
def Gd.row (e sz : Nat) (g : Gd) : Gd := ⟨fun σ cs => ∃ v es, cs = [v] ∧ RowAt σ e sz v es ∧ ∀ x ∈ es, g.G σ x, fun hs ⟨v, es, h1, h2, h3⟩ => ⟨v, es, h1, h2.mono hs, fun x hx => g.mono hs (h3 x hx)⟩⟩
/-- What a step of the telling leaves. -/
def Told (N : Nat) (w0 : World) (w : World) (ι : Inj) (σ : Store) (n : Nat) (Q : Inj → Store → Prop) : Prop :=
  ∃ ι' σ' n', n ≤ n' ∧ ι.le ι' ∧ Sub σ σ' ∧ At N w0 ι' σ' n' w ∧ Q ι' σ'
def Opn (P : Program) (N : Nat) (w0 w : World) (t : Nat) (g : Gd) : Prop :=
  ∀ {H : Type} {enc : TypeId × Value → H} {fuel : Nat} {cs : List Value} {x : DataW H × List MemPlace}, DataW.trod enc P w 0 (fun _ => true) true fuel t cs = some x →
    ∀ ι σ n, At N w0 ι σ n w → Told N w0 w ι σ n fun ι' σ' => ∃ acs, VRs ι' acs cs ∧ acs.all oneB = true ∧ g.G σ' acs
theorem Sub.trans {σ τ υ : Store} (h : Sub σ τ) (k : Sub τ υ) : Sub σ υ := fun i o e => k i o (h i o e)
section
variable {P : Program} {N : Nat} {w0 w : World} {t : Nat}
theorem Opn.int {k : IntKind} (ht : P.underlying t = some (.int k)) : Opn P N w0 w t (Gd.int k) := by
  intro H enc fuel cs x h ι σ n hA
  obtain ⟨m, rfl, _, hw⟩ := DataW.trod_int ht h
  exact ⟨ι, σ, n, Nat.le_refl _, Inj.le_refl _, Sub.refl _, hA, [.int k m], .cons (.int _ _) .nil, rfl, m, rfl, hw⟩
theorem Opn.bool (ht : P.underlying t = some .bool) : Opn P N w0 w t Gd.bool := by
  intro H enc fuel cs x h ι σ n hA
  obtain ⟨b, rfl, _⟩ := DataW.trod_bool ht h
  exact ⟨ι, σ, n, Nat.le_refl _, Inj.le_refl _, Sub.refl _, hA, [.bool b], .cons (.bool _) .nil, rfl, b, rfl⟩
theorem Opn.str (ht : P.underlying t = some .string) : Opn P N w0 w t Gd.str := by
  intro H enc fuel cs x h ι σ n hA
  obtain ⟨s, rfl, _, hs⟩ := DataW.trod_string ht h
  exact ⟨ι, σ, n, Nat.le_refl _, Inj.le_refl _, Sub.refl _, hA, [.string s], .cons (.str _) .nil, rfl, s, rfl, hs⟩
/-- Pieces (type, offset) that lie one after another from 'o' to the end 'm'. -/
def chainB (P : Program) (m : Nat) : Nat → List (Nat × Nat) → Bool
  | o, [] => o == m
  | o, (t, f) :: r => f == o && chainB P m (o + P.cellsOf t) r
def OpnAll (P : Program) (N : Nat) (w0 w : World) : List (Nat × Nat) → List Gd → Prop
  | [], [] => True
  | (t, _) :: r, g :: s => Opn P N w0 w t g ∧ OpnAll P N w0 w r s
  | _, _ => False
theorem opn_pieces {H : Type} {enc : TypeId × Value → H} {fuel : Nat} {cs : List Value} : ∀ (l : List (Nat × Nat)) (gs : List Gd) (o : Nat), OpnAll P N w0 w l gs → chainB P cs.length o l = true →
    (∀ p ∈ l, ∃ x, DataW.trod enc P w 0 (fun _ => true) true fuel p.1 ((cs.drop p.2).take (P.cellsOf p.1)) = some x) → ∀ ι σ n, At N w0 ι σ n w → Told N w0 w ι σ n fun ι' σ' => ∃ acs, VRs ι' acs (cs.drop o) ∧ acs.all oneB = true ∧ gAll gs σ' acs
  | [], [], o, _, hc, _, ι, σ, n, hA => by
    simp [chainB] at hc
    exact ⟨ι, σ, n, Nat.le_refl _, Inj.le_refl _, Sub.refl _, hA, [], by rw [List.drop_of_length_le (by omega)]; exact .nil, rfl, rfl⟩
  | (t, f) :: r, g :: s, o, ⟨ho, hr⟩, hc, hx, ι, σ, n, hA => by
    simp [chainB] at hc
    obtain ⟨rfl, hc⟩ := hc
    obtain ⟨x, hx0⟩ := hx (t, f) (by simp)
    obtain ⟨ι1, σ1, n1, a1, a2, a3, a4, acs, b1, b2, b3⟩ := ho hx0 ι σ n hA
    obtain ⟨ι2, σ2, n2, c1, c2, c3, c4, acs2, d1, d2, d3⟩ := opn_pieces r s (f + P.cellsOf t) hr hc (fun p hp => hx p (by simp [hp])) ι1 σ1 n1 a4
    refine ⟨ι2, σ2, n2, by omega, Inj.le_trans a2 c2, a3.trans c3, c4, acs ++ acs2, ?_, by simp [List.all_append, b2, d2], acs, acs2, rfl, g.mono c3 b3, d3⟩
    rw [← List.take_append_drop (P.cellsOf t) (cs.drop f)]
    have := d1
    rw [← List.drop_drop] at this
    exact (b1.mono c2).append this
  | [], _ :: _, _, h, _, _, _, _, _, _ => by cases h
  | _ :: _, [], _, h, _, _, _, _, _, _ => by cases h
theorem Opn.struct {fs : Array Field} {gs : List Gd} (ht : P.underlying t = some (.struct fs)) (hc : chainB P (P.cellsOf t) 0 (fs.toList.map fun f => (f.type, f.offset)) = true)
    (ho : OpnAll P N w0 w (fs.toList.map fun f => (f.type, f.offset)) gs) : Opn P N w0 w t (Gd.agg gs) := by
  intro H enc fuel cs x h ι σ n hA
  obtain ⟨xs, m, _, _, hcl, hxl, hf⟩ := DataW.trod_struct ht h
  have := opn_pieces (P := P) (N := N) (w0 := w0) (w := w) (enc := enc) (fuel := m) (cs := cs) _ gs 0 ho (by rw [hcl]; exact hc) (fun p hp => by
    rw [List.mem_map] at hp
    obtain ⟨f, hf1, rfl⟩ := hp
    obtain ⟨i, hi, rfl⟩ := List.getElem_of_mem hf1
    have hi' : i < fs.size := by simpa using hi
    have h2 := hf i (fs.toList[i]'hi) (by simp [hi'])
    rw [List.getElem?_eq_getElem (by omega)] at h2
    exact ⟨_, h2⟩) ι σ n hA
  rw [List.drop_zero] at this
  exact this
theorem Opn.array {m : Nat} {e : Nat} {gs : List Gd} (ht : P.underlying t = some (.array m e)) (hc : chainB P (P.cellsOf t) 0 ((List.range m).map fun i => (e, i * P.cellsOf e)) = true)
    (ho : OpnAll P N w0 w ((List.range m).map fun i => (e, i * P.cellsOf e)) gs) : Opn P N w0 w t (Gd.agg gs) := by
  intro H enc fuel cs x h ι σ n hA
  obtain ⟨xs, q, _, _, hcl, hxl, hf⟩ := DataW.trod_array ht h
  have := opn_pieces (P := P) (N := N) (w0 := w0) (w := w) (enc := enc) (fuel := q) (cs := cs) _ gs 0 ho (by rw [hcl]; exact hc) (fun p hp => by
    rw [List.mem_map] at hp
    obtain ⟨i, hf1, rfl⟩ := hp
    have hi : i < m := by simpa using hf1
    have h2 := hf i hi
    rw [List.getElem?_eq_getElem (by omega)] at h2
    exact ⟨_, h2⟩) ι σ n hA
  rw [List.drop_zero] at this
  exact this
/-- The elements that a slice shows, one after another. -/
theorem opn_rows {H : Type} {enc : TypeId × Value → H} {fuel : Nat} {e : Nat} {g : Gd} (ho : Opn P N w0 w e g) {a : Addr} {sz : Nat} : ∀ (m : Nat), (∀ i, i < m → ∃ c x, c.length = sz ∧ DataW.trod enc P w 0 (fun _ => true) true fuel e c = some x ∧ ∀ q u, c[q]? = some u → w.cell? ⟨a.block, a.off + i * sz + q, none⟩ = some u) →
    ∀ ι σ n, At N w0 ι σ n w → Told N w0 w ι σ n fun ι' σ' => ∃ es : List (List Value), es.length = m ∧ (∀ (k : Nat) (el : List Value), es[k]? = some el → el.length = sz ∧ ∀ (j : Nat) (v : Value), el[j]? = some v → ∃ v', w.cell? ⟨a.block, a.off + k * sz + j, none⟩ = some v' ∧ VR ι' v v' ∧ oneB v = true) ∧ ∀ x ∈ es, g.G σ' x
  | 0, _, ι, σ, n, hA => ⟨ι, σ, n, Nat.le_refl _, Inj.le_refl _, Sub.refl _, hA, [], rfl, fun k el h => by simp at h, fun x h => by simp at h⟩
  | m + 1, hx, ι, σ, n, hA => by
    obtain ⟨ι1, σ1, n1, a1, a2, a3, a4, es, b1, b2, b3⟩ := opn_rows ho m (fun i hi => hx i (by omega)) ι σ n hA
    obtain ⟨c, x, c1, c2, c3⟩ := hx m (by omega)
    obtain ⟨ι2, σ2, n2, d1, d2, d3, d4, acs, e1, e2, e3⟩ := ho c2 ι1 σ1 n1 a4
    refine ⟨ι2, σ2, n2, by omega, Inj.le_trans a2 d2, a3.trans d3, d4, es ++ [acs], by simp [b1], fun k el hk => ?_, fun y hy => ?_⟩
    · rcases Nat.lt_or_ge k es.length with hl | hl
      · rw [List.getElem?_append_left hl] at hk
        obtain ⟨f1, f2⟩ := b2 k el hk
        exact ⟨f1, fun j v hj => by obtain ⟨v', g1, g2, g3⟩ := f2 j v hj; exact ⟨v', g1, g2.mono d2, g3⟩⟩
      · have hk' : k = m := by
          have := (List.getElem?_eq_some_iff.1 hk).1
          rw [List.length_append, List.length_singleton] at this
          omega
        subst hk'
        rw [List.getElem?_append_right hl, b1] at hk
        simp at hk
        subst hk
        refine ⟨by rw [e1.length, c1], fun j v hj => ?_⟩
        obtain ⟨v', h1, h2⟩ := e1.get j v hj
        exact ⟨v', c3 j v' h1, h2, by rw [List.all_eq_true] at e2; exact e2 v (List.mem_of_getElem? hj)⟩
    · rw [List.mem_append] at hy
      rcases hy with hy | hy
      · exact g.mono d3 (b3 y hy)
      · simp at hy; subst hy; exact e3
/-- A new object that is only read. -/
theorem At.ro {ι : Inj} {σ : Store} {n : Nat} (hA : At N w0 ι σ n w) (o : AObj) (p : Place) (hw : o.w = false) (hb : p.b < w.heap.size) (ho : ∀ κ : Inj, ι.le κ → ObjR N κ o p w) (hty : ∀ m, o.t ≠ .mc m) (hid : ∀ i q, ι i = some q → ∀ o', σ i = some o' → o'.own → Ph o' q ∨ q.b ≠ p.b) :
    At N w0 (fun i => if i = n then some p else ι i) (fun i => if i = n then some o else σ i) (n + 1) w := by
  have hn := hA.fresh n (Nat.le_refl _)
  have hle : ι.le (fun i => if i = n then some p else ι i) := fun i q e => by
    show (if i = n then some p else ι i) = some q
    rw [if_neg (fun hi => by rw [hi, hn] at e; cases e)]; exact e
  refine ⟨⟨hA.rel.below, hA.rel.size, fun i q e => ?_, fun i j q q' r r' e1 e2 f1 f2 hij hwq => ?_, fun c v e => (by cases e)⟩, fun i hi => by
    show (if i = n then some p else ι i) = none
    rw [if_neg (by omega)]; exact hA.fresh i (by omega), fun i hi => by
    have := hA.ge
    show (if i = n then some p else ι i) = none
    rw [if_neg (by omega)]; exact hA.low i hi, by have := hA.ge; omega⟩
  · by_cases hi : i = n
    · simp only [if_pos hi] at e ⊢
      cases e
      exact ⟨p, rfl, .inr hb, ho _ hle⟩
    · simp only [if_neg hi] at e ⊢
      obtain ⟨p', h1, h2, h3⟩ := hA.rel.obj i q e
      exact ⟨p', h1, h2, h3.keep hle (.inr rfl)⟩
  · by_cases hi : i = n
    · simp only [if_pos hi] at e1
      cases e1
      rcases hwq with hwq | ⟨m, hm⟩
      · rw [hw] at hwq; cases hwq
      · exact absurd hm (hty m)
    · simp only [if_neg hi] at e1 f1
      by_cases hj : j = n
      · simp only [if_pos hj] at e2 f2
        cases f2
        exact (hid i r f1 q e1 hwq).imp (fun h => h) .inr
      · simp only [if_neg hj] at e2 f2
        exact hA.rel.sep i j q q' r r' e1 e2 f1 f2 hij hwq
theorem Opn.slice {e sz : Nat} {g : Gd} (ht : P.underlying t = some (.slice e)) (hsz : P.cellsOf e = sz) (hpos : 0 < sz) (ho : Opn P N w0 w e g) (hN : N = w.heap.size) : Opn P N w0 w t (Gd.row e sz g) := by
  intro H enc fuel cs x h ι σ n hA
  rcases DataW.trod_slice ht h with ⟨rfl, _⟩ | ⟨a, len, cap, elems, rest, m, _, rfl, _, _, hlc, hm, hlen, hel, hsp, _⟩
  · exact ⟨ι, σ, n, Nat.le_refl _, Inj.le_refl _, Sub.refl _, hA, [.slice none 0 0], .cons .sliceNil .nil, rfl, _, [], rfl, .nil, fun x h => by simp at h⟩
  rcases Nat.eq_zero_or_pos cap with hc0 | hc0
  · subst hc0
    obtain rfl : len = 0 := by omega
    exact ⟨ι, σ, n, Nat.le_refl _, Inj.le_refl _, Sub.refl _, hA, [.slice (some ⟨0, 0, none⟩) 0 1], .cons .sliceZ1 .nil, rfl, _, [], rfl, .zero, fun x h => by simp at h⟩
  obtain ⟨hr1, hr2⟩ := hsp rfl
  -- the first element that is there
  have first : ∃ c, w.cells? 0 a sz = some c := by
    rcases Nat.eq_zero_or_pos len with h0 | h0
    · subst h0
      have := hr2 0 (by omega)
      rw [List.getElem?_eq_getElem (by omega)] at this
      obtain ⟨c, hc, _⟩ := Option.bind_eq_some_iff.1 this
      rw [hsz] at hc
      exact ⟨c, by simpa [Addr.add] using hc⟩
    · have := hel 0 h0
      rw [List.getElem?_eq_getElem (by omega)] at this
      obtain ⟨c, hc, _⟩ := Option.bind_eq_some_iff.1 this
      rw [hsz] at hc
      exact ⟨c, by simpa [Addr.add] using hc⟩
  obtain ⟨c0, hc0'⟩ := first
  obtain ⟨_, hcl0, hcc0⟩ := World.cells?_some hc0'
  have h00 := hcc0 0 hpos
  rw [List.getElem?_eq_getElem (by omega)] at h00
  have hspot : a.spot = none ∧ a.block < w.heap.size := by
    have e0 : a.add 0 = a := by simp [Addr.add]
    rw [e0] at h00
    unfold World.cell? at h00
    split at h00
    · rename_i c1 t1 f1 hb
      split at h00
      · cases h00
      · rename_i hs
        exact ⟨by simpa using hs, (Array.getElem?_eq_some_iff.1 hb).1⟩
    · cases h00
  obtain ⟨ab, ao, asp⟩ := a
  obtain ⟨rfl, hblk⟩ := hspot
  have hblk' : ab < w.heap.size := hblk
  obtain ⟨ι1, σ1, n1, a1, a2, a3, a4, es, b1, b2, b3⟩ := opn_rows (a := ⟨ab, ao, none⟩) (sz := sz) (enc := enc) (fuel := m) ho len (fun i hi => by
    have hi2 := hel i hi
    rw [List.getElem?_eq_getElem (by omega)] at hi2
    obtain ⟨c, hc, ht2⟩ := Option.bind_eq_some_iff.1 hi2
    obtain ⟨_, hcl, hcc⟩ := World.cells?_some hc
    refine ⟨c, _, by rw [hcl, hsz], ht2, fun q u hq => ?_⟩
    have hq' : q < P.cellsOf e := by
      have := (List.getElem?_eq_some_iff.1 hq).1
      omega
    have := hcc q hq'
    rw [hq, hsz, addr_add, addr_add] at this
    exact this) ι σ n hA
  subst b1
  have hobj : ∀ κ : Inj, ι1.le κ → ObjR N κ ⟨es, sz, e, false⟩ ⟨ab, ao, sz, cap, none⟩ w := fun κ hk =>
    ⟨rfl, hpos, hlc, fun k el hk' => (b2 k el hk').1, fun k el hk' j v hj => by
      obtain ⟨v', g1, g2, g3⟩ := (b2 k el hk').2 j v hj
      exact ⟨v', g1, g2.mono hk, g3⟩, fun hw => (by cases hw), fun _ m hm => by cases hm⟩
  have hA2 := a4.ro ⟨es, sz, e, false⟩ ⟨ab, ao, sz, cap, none⟩ rfl hblk' hobj (fun m hm => by cases hm) (fun i q hq o' ho' hw' => by
    obtain ⟨q', g1, g2, g3⟩ := a4.rel.obj i o' ho'
    rw [hq] at g1; cases g1
    have key : Ph o' q ∨ N ≤ q.b := by
      cases hw2 : o'.w with
      | true => exact (g3.own' hw2).imp (fun h => h) (fun h => h.1)
      | false =>
        rcases hw' with h | ⟨m, hm⟩
        · rw [hw2] at h; cases h
        · exact .inr (g3.mp hw2 m hm).1
    refine key.imp (fun h => h) fun h5 => ?_
    show q.b ≠ ab
    omega)
  have hn1 := a4.fresh n1 (Nat.le_refl _)
  have hsub : Sub σ1 (fun i => if i = n1 then some ⟨es, sz, e, false⟩ else σ1 i) := fun i o hi => by
    show (if i = n1 then some _ else σ1 i) = some o
    rw [if_neg (fun hh => by
      obtain ⟨q, g1, _⟩ := a4.rel.obj i o hi
      rw [hh, hn1] at g1; cases g1)]
    exact hi
  refine ⟨_, _, n1 + 1, by omega, Inj.le_trans a2 (fun i q hq => ?_), a3.trans hsub, hA2, [.slice (some ⟨n1, 0, none⟩) es.length 0], .cons ?_ .nil, rfl, _, es, rfl, .obj (by simp), fun x hx => g.mono hsub (b3 x hx)⟩
  · show (if i = n1 then some _ else ι1 i) = some q
    rw [if_neg (fun hi => by rw [hi, hn1] at hq; cases hq)]; exact hq
  · have := VR.slice (ι := fun i => if i = n1 then some ⟨ab, ao, sz, cap, none⟩ else ι1 i) (i := n1) (o := 0) (n := es.length) (p := ⟨ab, ao, sz, cap, none⟩) (by simp) (by simpa using hlc)
    simpa using this
end
/-! ### Arguments -/
def ToldArg (N : Nat) (w0 w : World) (ι : Inj) (σ : Store) (n : Nat) (v : Value) (G : Store → Value → Prop) : Prop := Told N w0 w ι σ n fun ι' σ' => ∃ x, VR ι' x v ∧ G σ' x
section
variable {P : Program} {N : Nat} {w0 w : World} {t : Nat} {H : Type} {enc : TypeId × Value → H} {ι : Inj} {σ : Store} {n : Nat} {g : Gd}
theorem arg_agg {cs : Array Value} {d : DataW H} {ps : List MemPlace} (ho : Opn P N w0 w t g) (h : DataW.Trod enc P w 0 (fun _ => true) true t (.agg cs) d ps) (hA : At N w0 ι σ n w) : ToldArg N w0 w ι σ n (.agg cs) fun σ x => ∃ acs, x = .agg ⟨acs⟩ ∧ g.G σ acs := by
  obtain ⟨fuel, h⟩ := h
  obtain ⟨ι1, σ1, n1, a1, a2, a3, a4, acs, b1, b2, b3⟩ := ho h ι σ n hA
  obtain ⟨cs⟩ := cs
  exact ⟨ι1, σ1, n1, a1, a2, a3, a4, _, .agg b1, acs, rfl, b3⟩
end
theorem agg_mono {g : Gd} {σ σ' : Store} {x : Value} (hs : Sub σ σ') (h : ∃ acs, x = .agg ⟨acs⟩ ∧ g.G σ acs) : ∃ acs, x = .agg ⟨acs⟩ ∧ g.G σ' acs := by
  obtain ⟨acs, h1, h2⟩ := h
  exact ⟨acs, h1, g.mono hs h2⟩
theorem okWide_arr {P : Program} {w : World} {r : Reach} {base t m e : Nat} {v : Value} (ht : P.underlying t = some (.array m e)) (h : Value.okWide P w r base t v) : ∃ cs, v = .agg cs ∧ cs.size = P.cellsOf t := by
  unfold Value.okWide at h
  rw [ht] at h
  obtain ⟨cs, h1, h2, _⟩ := h
  exact ⟨cs, h1, h2⟩
theorem wrap_i64 {m : Nat} (h : m < 2147483648) : IntKind.wrap .i64 (m : Int) = m := by
  rw [IntKind.wrap_i64]
  omega
/-- Numbers told by codes. -/
def code (i : Nat) : Value := .chan (some (536870912 + i))
mutual
inductive Rec (D : Den) : Value → Value → Prop
  | same (v : Value) : Rec D v v
  | code {c : Nat} {k : IntKind} {n : Int} (h : D c = some (.int k n)) : Rec D (.chan (some c)) (.int k n)
  | codeS {c : Nat} {s : ByteArray} (h : D c = some (.string s)) : Rec D (.chan (some c)) (.string s)
  | agg {l l' : List Value} (h : Recs D l l') : Rec D (.agg ⟨l⟩) (.agg ⟨l'⟩)
inductive Recs (D : Den) : List Value → List Value → Prop
  | nil : Recs D [] []
  | cons {v v' : Value} {l l' : List Value} (h : Rec D v v') (hs : Recs D l l') : Recs D (v :: l) (v' :: l')
end
theorem Recs.same {D : Den} : ∀ l : List Value, Recs D l l
  | [] => .nil
  | v :: l => .cons (.same v) (Recs.same l)
mutual
theorem Rec.VR {D : Den} {ι κ : Inj} (hk : ι.le κ) (hc : ∀ c v, D c = some v → ∃ p, κ c = some p ∧ p.val = some v) : ∀ {v u x : Value}, Rec D v u → Go.Proofs.YtdiofapingdlmaaV.VR ι u x → Go.Proofs.YtdiofapingdlmaaV.VR κ v x
  | _, _, _, .same v, h => h.mono hk
  | _, _, _, .code h0, h => by
    cases h
    obtain ⟨p, h1, h2⟩ := hc _ _ h0
    exact .sym h1 h2
  | _, _, _, .codeS h0, h => by
    cases h
    obtain ⟨p, h1, h2⟩ := hc _ _ h0
    exact .symS h1 h2
  | _, _, _, .agg h0, h => by
    cases h with
    | agg h1 => exact .agg (Recs.VRs hk hc h0 h1)
theorem Recs.VRs {D : Den} {ι κ : Inj} (hk : ι.le κ) (hc : ∀ c v, D c = some v → ∃ p, κ c = some p ∧ p.val = some v) : ∀ {v u x : List Value}, Recs D v u → Go.Proofs.YtdiofapingdlmaaV.VRs ι u x → Go.Proofs.YtdiofapingdlmaaV.VRs κ v x
  | _, _, _, .nil, h => by cases h; exact .nil
  | _, _, _, .cons h0 hs, h => by
    cases h with
    | cons h1 h2 => exact .cons (Rec.VR hk hc h0 h1) (Recs.VRs hk hc hs h2)
end
end Go.Proofs.YtdiofapingdlmaaV
/- The abstract machine: a call that is run once and remembered. -/
set_option linter.unusedVariables false
set_option linter.unusedSimpArgs false
namespace Go.Proofs.YtdiofapingdlmaaV
open Go Go.RowKit
def xbody (E : Env) (F : Nat) (X : XC) : XC := fun f args n σ => match E.fn f with
    | some fn => match fn.body with
      | some c => if args.length ≤ fn.ntmps then match xrun E X fn.ntmps F c (init args) n σ with
          | some (.exit _, _, _, _) => none
          | some (_, τ', n', d) => match resL E τ' (app d σ) fn.results.toList with
            | some vs => some (one vs, n', d)
            | none => none
          | none => none
        else none
      | none => none
    | none => none
theorem CallK.drop {E : Env} : ∀ {k f : Nat} {args : List Value} {n n' : Nat} {σ : Store} {v : Value} {d : Delta}, CallK E k f args n σ v n' d → (∀ i ∈ keys d, n ≤ i ∧ i < n') → CallK E k f args n σ v n' []
  | 0, _, _, _, _, _, _, _, h, _ => h
  | k + 1, _, _, _, _, _, _, _, ⟨fn, c, x, τ', d0, vs, h1, h2, h3, h4, h5, h6, h7, h8⟩, hd =>
    ⟨fn, c, x, τ', d0, vs, h1, h2, h3, h4, h5, h6, h7, ⟨fun x hx => by simp [keys] at hx, fun x hx => (h8.gone x hx).elim (fun h => .inr (hd x h)) .inr⟩⟩
end Go.Proofs.YtdiofapingdlmaaV
/- The abstract machine: what code comes to, told by rules (a calculus for code over values that are not known). -/
set_option linter.unusedVariables false
set_option linter.unusedSimpArgs false
namespace Go.Proofs.YtdiofapingdlmaaV
open Go Go.RowKit
/-- Calls, told by what they mean. -/
def SC (P : Program) (D : Den) : CallRel := fun f args n σ v n' d => (∀ (as : Array Value) (w : World), (callFunc f as).run P w = .ok (.enter f as) w) ∧ KeysOk n n' σ d ∧
  ∀ (N : Nat) (w0 : World) (σ2 : Store) (ι : Inj) (w : World) (args' : List Value) (R : Ending → World → Prop), Sub σ σ2 → Rel D N w0 ι σ2 w → VRs ι args args' → Fresh ι n n' →
    (∀ κ w' v', End D N w0 ι σ2 n n' d κ w' → VR κ v v' → R (.returned v') w') → Calls P f ⟨args'⟩ w R
theorem SC_ok (P : Program) (D : Den) : CallOk P D (SC P D) := fun _ _ _ _ _ _ _ h => h
theorem SC.of_callK {P : Program} {E : Env} (hE : EnvOk P E) {k f : Nat} {args : List Value} {n n' : Nat} {σ : Store} {v : Value} {d : Delta} (h : CallK E k f args n σ v n' d) : SC P E.den f args n σ v n' d := callK_ok hE k _ _ _ _ _ _ _ h
theorem SC.mono {P : Program} {D : Den} {f : Nat} {args : List Value} {n n' : Nat} {σ τ : Store} {v : Value} {d : Delta} (h : SC P D f args n σ v n' d) (hs : Sub σ τ) : SC P D f args n τ v n' d :=
  ⟨h.1, ⟨h.2.1.1, fun i hi => (h.2.1.2 i hi).imp (fun e => by
    cases ho : σ i with
    | none => rw [ho] at e; cases e
    | some o => rw [hs i o ho]; rfl) id⟩, fun N w0 σ2 ι w args' R h2 => h.2.2 N w0 σ2 ι w args' R (fun i o e => h2 i o (hs i o e))⟩
/-- What code comes to. -/
structure CR (P : Program) (E : Env) (m : Nat) (c : Code) (τ : Tm) (n : Nat) (σ : Store) (x : AX) (τ' : Tm) (n' : Nat) (d : Delta) : Prop where
  keys : KeysOk n n' σ d
  run : ∀ (N : Nat) (w0 : World) (σ2 : Store) (ι : Inj) (w : World) (a : Act) (Q : Exit → Act → World → Prop), Sub σ σ2 → Rel E.den N w0 ι σ2 w → TR ι τ a → a.tmps.size = m → a.defers = [] → Fresh ι n n' →
      (∀ κ w' a', End E.den N w0 ι σ2 n n' d κ w' → TR κ τ' a' → a'.tmps.size = m → a'.defers = [] → Q x.toExit a' w') → cwp P c Q a w
section
variable {P : Program} {E : Env} {m : Nat} {τ τ1 τ' : Tm} {n n1 n' : Nat} {σ : Store} {x : AX} {d d1 d2 : Delta} {c a b : Code}
theorem CR.of_run (hE : EnvOk P E) (h : Run E (SC P E.den) m c τ n σ x τ' n' d) : CR P E m c τ n σ x τ' n' d :=
  ⟨(run_sound (N := 0) (w0 := default) hE (SC_ok P E.den) h).1, fun N w0 => (run_sound (N := N) (w0 := w0) hE (SC_ok P E.den) h).2⟩
theorem CR.mono {σ2 : Store} (h : CR P E m c τ n σ x τ' n' d) (hs : Sub σ σ2) : CR P E m c τ n σ2 x τ' n' d :=
  ⟨⟨h.keys.1, fun i hi => (h.keys.2 i hi).imp (fun e => by
    cases ho : σ i with
    | none => rw [ho] at e; cases e
    | some o => rw [hs i o ho]; rfl) id⟩, fun N w0 σ3 ι w a Q h2 => h.run N w0 σ3 ι w a Q (fun i o e => h2 i o (hs i o e))⟩
theorem CR.less {d0 : Delta} (h : CR P E m c τ n σ x τ' n' d0) (hl : Less n n' d0 d) : CR P E m c τ n σ x τ' n' d :=
  ⟨hl.keysOk h.keys, fun N w0 σ2 ι w act Q hs hR hT hm hdf hf hQ => h.run N w0 σ2 ι w act Q hs hR hT hm hdf hf fun κ w' a' hend => hQ κ w' a' ⟨hend.1, hend.2.1, hl.rel (rel_fresh hR hf) hend.2.2⟩⟩
theorem End.chain {D : Den} {N : Nat} {w0 : World} {ι κ κ2 : Inj} {σ2 : Store} {n n1 n' : Nat} {d1 d2 : Delta} {w' w2 : World} (b1 : n ≤ n1) (b2 : n1 ≤ n') (h1 : End D N w0 ι σ2 n n1 d1 κ w') (h2 : End D N w0 κ (app d1 σ2) n1 n' d2 κ2 w2) : End D N w0 ι σ2 n n' (d2 ++ d1) κ2 w2 := by
  refine ⟨Inj.le_trans h1.1 h2.1, fun i hi => ?_, by rw [app_append]; exact h2.2.2⟩
  by_cases hk : κ2 i = κ i
  · rw [hk] at hi; have := h1.2.1 i hi; omega
  · have := h2.2.1 i hk; omega
theorem End.fresh {D : Den} {N : Nat} {w0 : World} {ι κ : Inj} {σ2 : Store} {n n1 n' : Nat} {d1 : Delta} {w' : World} (b1 : n ≤ n1) (hf : Fresh ι n n') (h1 : End D N w0 ι σ2 n n1 d1 κ w') : Fresh κ n1 n' := by
  intro i i1 i2
  by_cases hk : κ i = ι i
  · rw [hk]; exact hf i (by omega) i2
  · have := h1.2.1 i hk; omega
theorem CR.seqN (h1 : CR P E m a τ n σ .normal τ1 n1 d1) (h2 : CR P E m b τ1 n1 (app d1 σ) x τ' n' d2) : CR P E m (.seq a b) τ n σ x τ' n' (d2 ++ d1) := by
  have b1 := h1.keys.1
  have b2 := h2.keys.1
  refine ⟨h1.keys.append h2.keys, fun N w0 σ2 ι w act Q hs hR hT hm hdf hf hQ => ?_⟩
  refine wp_seq (h1.run N w0 σ2 ι w act _ hs hR hT hm hdf (fun i i1 i2 => hf i i1 (by omega)) fun κ w' a' hend hT' hm' hdf' => ?_).wp
  exact (h2.run N w0 (app d1 σ2) κ w' a' Q (hs.app d1) hend.2.2 hT' hm' hdf' (End.fresh b1 hf hend) fun κ2 w2 a2 hend2 => hQ κ2 w2 a2 (End.chain b1 b2 hend hend2)).wp
theorem CR.seqX (h1 : CR P E m a τ n σ x τ' n' d) (hx : x ≠ .normal) : CR P E m (.seq a b) τ n σ x τ' n' d := by
  refine ⟨h1.keys, fun N w0 σ2 ι w act Q hs hR hT hm hdf hf hQ => ?_⟩
  refine wp_seq (h1.run N w0 σ2 ι w act _ hs hR hT hm hdf hf fun κ w' a' hend hT' hm' hdf' => ?_).wp
  have := hQ κ w' a' hend hT' hm' hdf'
  cases x with
  | normal => exact absurd rfl hx
  | exit i => exact this
  | ret => exact this
theorem CR.cond {o : Operand} {t : Bool} (hc : args1 τ o = some (.bool t)) (h : CR P E m (if t then a else b) τ n σ x τ' n' d) : CR P E m (.cond o a b) τ n σ x τ' n' d := by
  refine ⟨h.keys, fun N w0 σ2 ι w act Q hs hR hT hm hdf hf hQ => ?_⟩
  have hv := args1_sound hT hc
  generalize hce : act.eval o = cv at hv
  cases hv
  exact wp_cond hce (h.run N w0 σ2 ι w act Q hs hR hT hm hdf hf hQ).wp
theorem CR.block {id : Nat} (h : CR P E m c τ n σ x τ' n' d) : CR P E m (.block id c) τ n σ (x.inBlock id) τ' n' d := by
  refine ⟨h.keys, fun N w0 σ2 ι w act Q hs hR hT hm hdf hf hQ => ?_⟩
  refine wp_block (h.run N w0 σ2 ι w act _ hs hR hT hm hdf hf fun κ w' a' hend hT' hm' hdf' => ?_).wp
  have := hQ κ w' a' hend hT' hm' hdf'
  cases x with
  | normal => exact this
  | ret => exact this
  | exit i =>
    simp only [AX.inBlock] at this
    simp only [AX.toExit, Exit.inBlock]
    split
    · rename_i hi
      rw [if_pos hi] at this; exact this
    · rename_i hi
      rw [if_neg hi] at this; exact this
theorem CR.loopN (h1 : CR P E m c τ n σ .normal τ1 n1 d1) (h2 : CR P E m (.loop c) τ1 n1 (app d1 σ) x τ' n' d2) : CR P E m (.loop c) τ n σ x τ' n' (d2 ++ d1) := by
  have b1 := h1.keys.1
  have b2 := h2.keys.1
  refine ⟨h1.keys.append h2.keys, fun N w0 σ2 ι w act Q hs hR hT hm hdf hf hQ => ?_⟩
  refine loopW_next (h1.run N w0 σ2 ι w act _ hs hR hT hm hdf (fun i i1 i2 => hf i i1 (by omega)) fun κ w' a' hend hT' hm' hdf' => ?_).wp
  exact h2.run N w0 (app d1 σ2) κ w' a' Q (hs.app d1) hend.2.2 hT' hm' hdf' (End.fresh b1 hf hend) fun κ2 w2 a2 hend2 => hQ κ2 w2 a2 (End.chain b1 b2 hend hend2)
theorem CR.loopX (h1 : CR P E m c τ n σ x τ' n' d) (hx : x ≠ .normal) : CR P E m (.loop c) τ n σ x τ' n' d := by
  refine ⟨h1.keys, fun N w0 σ2 ι w act Q hs hR hT hm hdf hf hQ => ?_⟩
  refine loopW_next (h1.run N w0 σ2 ι w act _ hs hR hT hm hdf hf fun κ w' a' hend hT' hm' hdf' => ?_).wp
  have := hQ κ w' a' hend hT' hm' hdf'
  cases x with
  | normal => exact absurd rfl hx
  | exit i => exact this
  | ret => exact this
/-- A call runs its function's body. -/
theorem SC.of_body (hE : EnvOk P E) {f : Nat} {fn : Func} {args vs : List Value} {d0 : Delta} (hf : E.fn f = some fn) (hb : fn.body = some c) (hl : args.length ≤ fn.ntmps) (h : CR P E fn.ntmps c (init args) n σ x τ' n' d0) (hx : x = .normal ∨ x = .ret) (hres : resL E τ' (app d0 σ) fn.results.toList = some vs) (hless : Less n n' d0 d) : SC P E.den f args n σ (one vs) n' d := by
  obtain ⟨hP, hname⟩ := hE.fn f fn hf
  refine ⟨fun as w => ?_, hless.keysOk h.keys, ?_⟩
  · unfold callFunc
    simp only [Sem.run_bind, run_program, Result.andThen_ok, hP, hname, Bool.false_eq_true, if_false, hb, Option.isNone_some, Sem.run_pure]
  · intro N w0 σ2 ι w args' R hs hR hargs hfr hK
    refine calls_of_wp hP hb ?_
    have hl' : args'.length ≤ fn.ntmps := by rw [← hargs.length]; exact hl
    refine (h.run N w0 σ2 ι w { tmps := ⟨args'⟩ ++ Array.replicate (fn.ntmps - args'.length) undef, defers := [] } _ hs hR (hargs.init _) ?_ rfl hfr fun κ w' a' hend hT hm hdf => ?_).wp
    · simp; omega
    · obtain ⟨v', h1, h2⟩ := results_run hE (hs.app d0) hend.2.2 hT hres
      have := hK κ w' v' ⟨hend.1, hend.2.1, hless.rel (rel_fresh hR hfr) hend.2.2⟩ h2
      rcases hx with rfl | rfl <;> exact ⟨hdf, v', h1, this⟩
/-! ### With what is asked behind it -/
abbrev Post := AX → Tm → Nat → Delta → Prop
def RQ (P : Program) (E : Env) (m : Nat) (c : Code) (τ : Tm) (n : Nat) (σ : Store) (Q : Post) : Prop := ∃ x τ' n' d, CR P E m c τ n σ x τ' n' d ∧ Q x τ' n' d
def CQ (P : Program) (D : Den) (f : Nat) (args : List Value) (n : Nat) (σ : Store) (Q : Value → Nat → Delta → Prop) : Prop := ∃ v n' d, SC P D f args n σ v n' d ∧ Q v n' d
def OQ (P : Program) (E : Env) (m : Nat) (ops : Array Oper) (l : List Oper) (τ : Tm) (n : Nat) (σ : Store) (Q : Tm → Nat → Delta → Prop) : Prop := ∃ τ' n' d, Ops E (SC P E.den) ops m l τ n σ τ' n' d ∧ Q τ' n' d
variable {Q R : Post}
theorem RQ.imp (h : RQ P E m c τ n σ Q) (hQ : ∀ x τ' n' d, Q x τ' n' d → R x τ' n' d) : RQ P E m c τ n σ R := by
  obtain ⟨x, τ', n', d, h1, h2⟩ := h
  exact ⟨x, τ', n', d, h1, hQ _ _ _ _ h2⟩
theorem RQ.mono {σ2 : Store} (hs : Sub σ σ2) (h : RQ P E m c τ n σ Q) : RQ P E m c τ n σ2 Q := by
  obtain ⟨x, τ', n', d, h1, h2⟩ := h
  exact ⟨x, τ', n', d, h1.mono hs, h2⟩
theorem RQ.less (h : RQ P E m c τ n σ (fun x τ' n' d0 => ∃ d, Less n n' d0 d ∧ Q x τ' n' d)) : RQ P E m c τ n σ Q := by
  obtain ⟨x, τ', n', d0, h1, d, h2, h3⟩ := h
  exact ⟨x, τ', n', d, h1.less h2, h3⟩
theorem RQ.skip (hE : EnvOk P E) (h : Q .normal τ n []) : RQ P E m .skip τ n σ Q := ⟨_, _, _, _, .of_run hE .skip, h⟩
theorem RQ.exit (hE : EnvOk P E) {i : Nat} (h : Q (.exit i) τ n []) : RQ P E m (.exit i) τ n σ Q := ⟨_, _, _, _, .of_run hE .exit, h⟩
theorem RQ.ret (hE : EnvOk P E) (h : Q .ret τ n []) : RQ P E m .ret τ n σ Q := ⟨_, _, _, _, .of_run hE .ret, h⟩
theorem RQ.region (hE : EnvOk P E) {id : Nat} {ops : Array Oper} (h : OQ P E m ops ops.toList τ n σ (fun τ' n' d => Q .normal τ' n' d)) : RQ P E m (.region id ops false) τ n σ Q := by
  obtain ⟨τ', n', d, h1, h2⟩ := h
  exact ⟨_, _, _, _, .of_run hE (.region h1), h2⟩
theorem RQ.seq (h : RQ P E m a τ n σ (fun x τ1 n1 d1 => match x with
    | .normal => RQ P E m b τ1 n1 (app d1 σ) (fun x τ' n' d2 => Q x τ' n' (d2 ++ d1))
    | x => Q x τ1 n1 d1)) : RQ P E m (.seq a b) τ n σ Q := by
  obtain ⟨x, τ1, n1, d1, h1, h2⟩ := h
  cases x with
  | normal =>
    obtain ⟨x, τ', n', d2, h3, h4⟩ := h2
    exact ⟨_, _, _, _, h1.seqN h3, h4⟩
  | exit i => exact ⟨_, _, _, _, h1.seqX (by simp), h2⟩
  | ret => exact ⟨_, _, _, _, h1.seqX (by simp), h2⟩
theorem RQ.cond {o : Operand} {t : Bool} (hc : args1 τ o = some (.bool t)) (h1 : t = true → RQ P E m a τ n σ Q) (h2 : t = false → RQ P E m b τ n σ Q) : RQ P E m (.cond o a b) τ n σ Q := by
  cases t with
  | true => obtain ⟨x, τ', n', d, k1, k2⟩ := h1 rfl; exact ⟨x, τ', n', d, .cond hc k1, k2⟩
  | false => obtain ⟨x, τ', n', d, k1, k2⟩ := h2 rfl; exact ⟨x, τ', n', d, .cond hc k1, k2⟩
theorem RQ.block {id : Nat} (h : RQ P E m c τ n σ (fun x τ' n' d => Q (x.inBlock id) τ' n' d)) : RQ P E m (.block id c) τ n σ Q := by
  obtain ⟨x, τ', n', d, h1, h2⟩ := h
  exact ⟨_, _, _, _, .block h1, h2⟩
theorem app_mem {d0 d : Delta} {n n' : Nat} (h : Less n n' d0 d) {i : Nat} (hi : i ∈ keys d) (σ : Store) : app d σ i = app d0 σ i := (h.sub i hi).2 σ
/-- Nothing stands from here on. -/
def Dom (n : Nat) (σ : Store) : Prop := ∀ i, n ≤ i → σ i = none
theorem Dom.lt {n i : Nat} {σ : Store} {o : AObj} (h : Dom n σ) (hi : σ i = some o) : i < n := by
  rcases Nat.lt_or_ge i n with h1 | h1
  · exact h1
  · rw [h i h1] at hi; cases hi
theorem Dom.app {n n' : Nat} {σ : Store} {d : Delta} (h : Dom n σ) (hk : KeysOk n n' σ d) : Dom n' (app d σ) := by
  intro i hi
  have : i ∉ keys d := fun hm => by
    rcases hk.2 i hm with h1 | h1
    · have h0 := hk.1
      rw [h i (by omega)] at h1; cases h1
    · omega
  rw [app_off this]
  have h0 := hk.1
  exact h i (by omega)
theorem Less.subApp {d0 d : Delta} {n n' : Nat} {σ : Store} (h : Less n n' d0 d) (hd : Dom n σ) : Sub (app d σ) (app d0 σ) := by
  intro i o e
  by_cases hi : i ∈ Go.Proofs.YtdiofapingdlmaaV.keys d
  · rw [← app_mem h hi]; exact e
  · rw [app_off hi] at e
    have : i ∉ Go.Proofs.YtdiofapingdlmaaV.keys d0 := fun hm => (h.gone i hm).elim hi fun h1 => by rw [hd i h1.1] at e; cases e
    rw [app_off this]; exact e
theorem Less.step {n0 n1 n' : Nat} {d d'' d3 e : Delta} (h1 : Less n0 n1 d d'') (h2 : Less n0 n' (e ++ d'') d3) (hn : n1 ≤ n') : Less n0 n' (e ++ d) d3 := by
  refine ⟨fun x hx => ?_, fun x hx => ?_⟩
  · obtain ⟨k1, k2⟩ := h2.sub x hx
    rw [keys_append, List.mem_append] at k1
    by_cases he : x ∈ Go.Proofs.YtdiofapingdlmaaV.keys e
    · exact ⟨by rw [keys_append, List.mem_append]; exact .inl he, fun τ => by rw [k2, app_append, app_append]; exact app_on he⟩
    · have hd := k1.resolve_left he
      obtain ⟨g1, g2⟩ := h1.sub x hd
      exact ⟨by rw [keys_append, List.mem_append]; exact .inr g1, fun τ => by rw [k2, app_append, app_append, app_off he, app_off he, g2]⟩
  · rw [keys_append, List.mem_append] at hx
    rcases hx with hx | hx
    · exact h2.gone x (by rw [keys_append, List.mem_append]; exact .inl hx)
    · rcases h1.gone x hx with h | h
      · exact h2.gone x (by rw [keys_append, List.mem_append]; exact .inr h)
      · exact .inr (by omega)
theorem RQ.loop_aux {n0 : Nat} (hd0 : Dom n0 σ) (I : Nat → Tm → Nat → Delta → Prop)
    (h : ∀ k τ n d, I k τ n d → n0 ≤ n → RQ P E m c τ n (Go.Proofs.YtdiofapingdlmaaV.app d σ) (fun x τ' n' d' => match x with
      | .normal => ∃ k', k' < k ∧ ∃ d'', Less n0 n' (d' ++ d) d'' ∧ I k' τ' n' d''
      | .exit i => ∃ d'', Less n0 n' (d' ++ d) d'' ∧ Q (.exit i) τ' n' d''
      | .ret => ∃ d'', Less n0 n' (d' ++ d) d'' ∧ Q .ret τ' n' d'')) :
    ∀ k τ n d, I k τ n d → n0 ≤ n → ∃ x τ' n' e, CR P E m (.loop c) τ n (Go.Proofs.YtdiofapingdlmaaV.app d σ) x τ' n' e ∧ ∃ d'', Less n0 n' (e ++ d) d'' ∧ Q x τ' n' d'' := by
  intro k
  induction k using Nat.strongRecOn with
  | _ k ih =>
    intro τ n d hI hn
    obtain ⟨x, τ1, n1, d1, h1, h2⟩ := h k τ n d hI hn
    have b1 := h1.keys.1
    cases x with
    | normal =>
      obtain ⟨k', hk, d'', hl, hI'⟩ := h2
      obtain ⟨x, τ', n', e, g1, d3, g2, g3⟩ := ih k' hk τ1 n1 d'' hI' (by omega)
      have b2 := g1.keys.1
      have hs : Sub (Go.Proofs.YtdiofapingdlmaaV.app d'' σ) (Go.Proofs.YtdiofapingdlmaaV.app d1 (Go.Proofs.YtdiofapingdlmaaV.app d σ)) := by rw [← app_append]; exact hl.subApp hd0
      refine ⟨x, τ', n', _, h1.loopN (g1.mono hs), d3, ?_, g3⟩
      rw [List.append_assoc]
      exact hl.step g2 b2
    | exit i =>
      obtain ⟨d'', hl, hq⟩ := h2
      exact ⟨_, _, _, _, h1.loopX (by simp), d'', hl, hq⟩
    | ret =>
      obtain ⟨d'', hl, hq⟩ := h2
      exact ⟨_, _, _, _, h1.loopX (by simp), d'', hl, hq⟩
/-- A loop, by what stays true of it: 'I k' with a number that gets less each round, and what is written so far. -/
theorem RQ.loop (hd0 : Dom n σ) (I : Nat → Tm → Nat → Delta → Prop) (k0 : Nat) (h0 : I k0 τ n [])
    (h : ∀ k τ' n' d, I k τ' n' d → n ≤ n' → RQ P E m c τ' n' (Go.Proofs.YtdiofapingdlmaaV.app d σ) (fun x τ2 n2 d' => match x with
      | .normal => ∃ k', k' < k ∧ ∃ d'', Less n n2 (d' ++ d) d'' ∧ I k' τ2 n2 d''
      | .exit i => ∃ d'', Less n n2 (d' ++ d) d'' ∧ Q (.exit i) τ2 n2 d''
      | .ret => ∃ d'', Less n n2 (d' ++ d) d'' ∧ Q .ret τ2 n2 d'')) : RQ P E m (.loop c) τ n σ Q := by
  obtain ⟨x, τ', n', e, g1, d3, g2, g3⟩ := RQ.loop_aux hd0 I h k0 τ n [] h0 (Nat.le_refl _)
  rw [List.append_nil] at g2
  exact ⟨x, τ', n', d3, g1.less g2, g3⟩
theorem CQ.of_body (hE : EnvOk P E) {f : Nat} {fn : Func} {args : List Value} {Q : Value → Nat → Delta → Prop} (hf : E.fn f = some fn) (hb : fn.body = some c) (hl : args.length ≤ fn.ntmps)
    (h : RQ P E fn.ntmps c (init args) n σ (fun x τ' n' d0 => (x = .normal ∨ x = .ret) ∧ ∃ vs, resL E τ' (Go.Proofs.YtdiofapingdlmaaV.app d0 σ) fn.results.toList = some vs ∧ ∃ d, Less n n' d0 d ∧ Q (one vs) n' d)) : CQ P E.den f args n σ Q := by
  obtain ⟨x, τ', n', d0, h1, hx, vs, hr, d, hl2, hq⟩ := h
  exact ⟨_, _, _, .of_body hE hf hb hl h1 hx hr hl2, hq⟩
theorem CQ.imp {D : Den} {f : Nat} {args : List Value} {Q R : Value → Nat → Delta → Prop} (h : CQ P D f args n σ Q) (hQ : ∀ v n' d, Q v n' d → R v n' d) : CQ P D f args n σ R := by
  obtain ⟨v, n', d, h1, h2⟩ := h
  exact ⟨v, n', d, h1, hQ _ _ _ h2⟩
theorem CQ.mono {D : Den} {σ2 : Store} {f : Nat} {args : List Value} {Q : Value → Nat → Delta → Prop} (hs : Sub σ σ2) (h : CQ P D f args n σ Q) : CQ P D f args n σ2 Q := by
  obtain ⟨v, n', d, h1, h2⟩ := h
  exact ⟨v, n', d, h1.mono hs, h2⟩
theorem CQ.keys {D : Den} {f : Nat} {args : List Value} {Q : Value → Nat → Delta → Prop} (h : CQ P D f args n σ Q) : CQ P D f args n σ (fun v n' d => KeysOk n n' σ d ∧ Q v n' d) := by
  obtain ⟨v, n', d, h1, h2⟩ := h
  exact ⟨v, n', d, h1, h1.2.1, h2⟩
/-! ### Operations -/
variable {ops : Array Oper} {o : Oper} {rest : List Oper} {K : Tm → Nat → Delta → Prop} {v : Value}
theorem OQ.nil (h : K τ n []) : OQ P E m ops [] τ n σ K := ⟨_, _, _, .nil, h⟩
variable {dst : Option Nat}
theorem OQ.pure (hw : wantA ops τ o = true) (hd : dstOk m o = true) (hdst : o.dst = dst) (hs : (aop E τ o).run n σ = some (v, n, [])) (h : OQ P E m ops rest (upd τ dst v) n σ K) : OQ P E m ops (o :: rest) τ n σ K := by
  subst hdst
  obtain ⟨τ', n', d, h1, h2⟩ := h
  exact ⟨τ', n', _, .on hw hd (.op hs) h1, by rw [List.append_nil]; exact h2⟩
theorem OQ.op (hw : wantA ops τ o = true) (hd : dstOk m o = true) (hdst : o.dst = dst) (hs : (aop E τ o).run n σ = some (v, n1, d1)) (h : OQ P E m ops rest (upd τ dst v) n1 (Go.Proofs.YtdiofapingdlmaaV.app d1 σ) (fun τ' n' d2 => K τ' n' (d2 ++ d1))) : OQ P E m ops (o :: rest) τ n σ K := by
  subst hdst
  obtain ⟨τ', n', d, h1, h2⟩ := h
  exact ⟨τ', n', _, .on hw hd (.op hs) h1, h2⟩
theorem OQ.off (hw : wantA ops τ o = false) (hd : dstOk m o = true) (hdst : o.dst = dst) (h : OQ P E m ops rest (upd τ dst undef) n σ K) : OQ P E m ops (o :: rest) τ n σ K := by
  subst hdst
  obtain ⟨τ', n', d, h1, h2⟩ := h
  exact ⟨τ', n', _, .off hw hd h1, h2⟩
theorem OQ.call {cl : Call} {fo : Operand} {g : Nat} {first cap : Array Value} {as all : List Value} (hw : wantA ops τ o = true) (hd : dstOk m o = true) (hdst : o.dst = dst) (ho : o.op = .call cl) (hc : cl.callee = .value fo) (hf : args1 τ fo = some (.func (.func g) first cap)) (ha : evL τ cl.args.toList = some as) (hall : first.toList ++ as ++ cap.toList = all)
    (h : CQ P E.den g all n σ (fun v n1 d1 => OQ P E m ops rest (upd τ dst v) n1 (Go.Proofs.YtdiofapingdlmaaV.app d1 σ) (fun τ' n' d2 => K τ' n' (d2 ++ d1)))) : OQ P E m ops (o :: rest) τ n σ K := by
  subst hdst
  subst hall
  obtain ⟨v, n1, d1, hs, τ', n', d, h1, h2⟩ := h
  exact ⟨τ', n', _, .on hw hd (.call ho hc hf ha hs) h1, h2⟩
theorem OQ.imp {K' : Tm → Nat → Delta → Prop} {l : List Oper} (h : OQ P E m ops l τ n σ K) (hK : ∀ τ' n' d, K τ' n' d → K' τ' n' d) : OQ P E m ops l τ n σ K' := by
  obtain ⟨τ', n', d, h1, h2⟩ := h
  exact ⟨τ', n', d, h1, hK _ _ _ h2⟩
theorem run_get {i : Nat} {k : AObj → T} {ob : AObj} {r : Option (Value × Nat × Delta)} (h : σ i = some ob) (hk : (k ob).run n σ = r) : (T.get i k).run n σ = r := by
  rw [← hk]; simp only [T.run, h]
end
/-- What temporaries hold. -/
def Has (τ : Tm) : List (Nat × Value) → Prop
  | [] => True
  | (t, v) :: r => τ t = v ∧ Has τ r
def upds (τ : Tm) : List (Nat × Value) → Tm
  | [] => τ
  | (t, v) :: r => upd (upds τ r) (some t) v
theorem upd_self {τ : Tm} {t : Nat} {v : Value} (h : τ t = v) : upd τ (some t) v = τ := by
  funext s
  simp only [upd]
  split
  · rename_i e; rw [e, h]
  · rfl
theorem Has.eq {τ : Tm} : ∀ {l : List (Nat × Value)}, Has τ l → τ = upds τ l
  | [], _ => rfl
  | (t, v) :: r, h => by
    show τ = upd (upds τ r) (some t) v
    rw [← Has.eq h.2, upd_self h.1]
end Go.Proofs.YtdiofapingdlmaaV
/- The abstract machine: the calculus, for regions whose order is drawn; and a law's call. -/
set_option linter.unusedVariables false
set_option linter.unusedSimpArgs false
namespace Go.Proofs.YtdiofapingdlmaaV
open Go Go.RowKit
theorem Step.mono {P : Program} {E : Env} {τ : Tm} {o : Oper} {n n' : Nat} {σ σ2 : Store} {v : Value} {d : Delta} (h : Step E (SC P E.den) τ o n σ v n' d) (hs : Sub σ σ2) : Step E (SC P E.den) τ o n σ2 v n' d := by
  cases h with
  | op h => exact .op (T.mono hs h)
  | call ho hc hf ha h => exact .call ho hc hf ha (h.mono hs)
/-- The store that the operation behind these sees: what it waits for has come up. -/
def seenBy (ops : Array Oper) (Ds : List Delta) (σ : Store) : Store := app (selD (fun i => Ds.getD i []) (fun i => (B ops Ds.length).contains i) Ds.length) σ
/-- Operation t comes behind all ahead of it, and ahead of all behind it. -/
def tight (ops : Array Oper) (t : Nat) : Bool := (List.range ops.size).all fun i => if Nat.blt i t then (B ops t).contains i else Nat.beq i t || ((B ops i).contains t && (B ops t).all (fun k => (B ops i).contains k))
def trans (ops : Array Oper) : Bool := (List.range ops.size).all fun j => (B ops j).all fun i => (B ops i).all fun k => (B ops j).contains k
/-- All that is loose to operation j is among these. -/
def looseIn (ops : Array Oper) (j : Nat) (LI : List Nat) : Bool := (List.range ops.size).all fun i => !(loose ops j i) || LI.contains i
def WrOk (ops : Array Oper) (nb : Nat) (md : List (Option (List Nat))) (Ds : List Delta) (n n1 x : Nat) : Prop := x < n1 ∧ (n ≤ x ∨ tight ops Ds.length = true ∨ ((x < nb ∨ (trans ops = true ∧ ∃ i, i ∈ B ops Ds.length ∧ x ∈ keys (Ds.getD i []))) ∧ ∃ LI, looseIn ops Ds.length LI = true ∧ ∀ i ∈ LI, ∃ R, md.getD i none = some R ∧ x ∉ R))
/-- A region whose order is drawn, where what is written is new, or the operation stands alone. -/
def PQ (P : Program) (E : Env) (m : Nat) (ops : Array Oper) (nb : Nat) (md : List (Option (List Nat))) (σ : Store) (K : Tm → Nat → Delta → Prop) : List Oper → Tm → Nat → List Delta → Prop
  | [], τ, n, Ds => K τ n (selD (fun i => Ds.getD i []) allB Ds.length)
  | o :: r, τ, n, Ds => dstOk m o = true ∧ ((wantA ops τ o = true ∧ ∃ v n1 d1 σj, n ≤ n1 ∧ (∀ x ∈ keys d1, WrOk ops nb md Ds n n1 x) ∧ (Sub σj (seenBy ops Ds σ) ∧ (∀ R, md.getD Ds.length none = some R → ∀ y q, σj y = some q → y ∈ R)) ∧ Step E (SC P E.den) τ o n σj v n1 d1 ∧ PQ P E m ops nb md σ K r (upd τ o.dst v) n1 (Ds ++ [d1])) ∨
      (wantA ops τ o = false ∧ PQ P E m ops nb md σ K r (upd τ o.dst undef) n (Ds ++ [[]])))
section
variable {P : Program} {E : Env} {m nb : Nat} {md : List (Option (List Nat))} {ops : Array Oper} {σ : Store} {K : Tm → Nat → Delta → Prop}
theorem seenBy_local {Ds Ds' : List Delta} {k : Nat} (hk : k = Ds.length) (h : ∀ i, i < k → Ds.getD i [] = Ds'.getD i []) : app (selD (fun i => Ds'.getD i []) (fun i => (B ops k).contains i) k) σ = seenBy ops Ds σ := by
  unfold seenBy
  rw [← hk]
  rw [selD_local fun i hi => (h i hi).symm]
theorem PQ.spec (hlt : ∀ (j : Nat) (o : Oper), ops[j]? = some o → ∀ i ∈ B ops j, i < j) : ∀ {r : List Oper} {τ : Tm} {n : Nat} {Ds : List Delta}, (∀ (i : Nat) (o : Oper), r[i]? = some o → ops[Ds.length + i]? = some o) → PQ P E m ops nb md σ K r τ n Ds → ∃ l : List (Value × Nat × Delta), l.length = r.length ∧
    (∀ (i : Nat) (o : Oper), r[i]? = some o → dstOk m o = true ∧
      (if wantA ops (tf τ r (l.map (·.1)) i) o = true then ∃ σj, (Sub σj (app (selD (fun q => (Ds ++ l.map (·.2.2)).getD q []) (fun q => (B ops (Ds.length + i)).contains q) (Ds.length + i)) σ) ∧ (∀ R, md.getD (Ds.length + i) none = some R → ∀ y q, σj y = some q → y ∈ R)) ∧ Step E (SC P E.den) (tf τ r (l.map (·.1)) i) o ((n :: l.map (·.2.1)).getD i 0) σj ((l.map (·.1)).getD i undef) ((n :: l.map (·.2.1)).getD (i + 1) 0) ((Ds ++ l.map (·.2.2)).getD (Ds.length + i) [])
        else (l.map (·.1)).getD i undef = undef ∧ (n :: l.map (·.2.1)).getD (i + 1) 0 = (n :: l.map (·.2.1)).getD i 0 ∧ (Ds ++ l.map (·.2.2)).getD (Ds.length + i) [] = []) ∧
      (n :: l.map (·.2.1)).getD i 0 ≤ (n :: l.map (·.2.1)).getD (i + 1) 0 ∧
      ∀ x ∈ keys ((Ds ++ l.map (·.2.2)).getD (Ds.length + i) []), x < (n :: l.map (·.2.1)).getD (i + 1) 0 ∧ ((n :: l.map (·.2.1)).getD i 0 ≤ x ∨ tight ops (Ds.length + i) = true ∨ ((x < nb ∨ (trans ops = true ∧ ∃ q, q ∈ B ops (Ds.length + i) ∧ q < Ds.length + i ∧ x ∈ keys ((Ds ++ l.map (·.2.2)).getD q []))) ∧ ∃ LI, looseIn ops (Ds.length + i) LI = true ∧ ∀ i ∈ LI, ∃ R, md.getD i none = some R ∧ x ∉ R))) ∧
    K (tf τ r (l.map (·.1)) r.length) ((n :: l.map (·.2.1)).getD r.length 0) (selD (fun q => (Ds ++ l.map (·.2.2)).getD q []) allB (Ds.length + r.length))
  | [], τ, n, Ds, hat, h => ⟨[], rfl, fun i o ho => by simp at ho, by
      show K τ n _
      have : (Ds ++ ([] : List (Value × Nat × Delta)).map (·.2.2)) = Ds := by simp
      rw [this]
      exact h⟩
  | o :: r, τ, n, Ds, hat, h => by
    have hat' : ∀ (X : Delta) (i : Nat) (o' : Oper), r[i]? = some o' → ops[(Ds ++ [X]).length + i]? = some o' := fun X i o' h => by
      have := hat (i + 1) o' (by simpa using h)
      rw [← this]; congr 1; simp; omega
    obtain ⟨hd, h⟩ := h
    rcases h with ⟨hw, v, n1, d1, σj, hn, hk, hs, hst, hr⟩ | ⟨hw, hr⟩
    · obtain ⟨l, h1, h2, h3⟩ := PQ.spec hlt (hat' _) hr
      have e1 : Ds ++ [d1] ++ l.map (·.2.2) = Ds ++ ((v, n1, d1) :: l).map (·.2.2) := by simp
      refine ⟨(v, n1, d1) :: l, by simp [h1], fun i o' ho => ?_, ?_⟩
      · cases i with
        | zero =>
          simp at ho; subst ho
          have e0 : tf τ (o :: r) (((v, n1, d1) :: l).map (·.1)) 0 = τ := rfl
          have hdl : (Ds ++ ((v, n1, d1) :: l).map (·.2.2)).getD (Ds.length + 0) [] = d1 := by simp [List.getD_eq_getElem?_getD]
          refine ⟨hd, ?_, hn, fun x hx => ?_⟩
          · rw [e0, if_pos hw, hdl]
            refine ⟨σj, ?_, hst⟩
            rw [Nat.add_zero, seenBy_local (Ds := Ds) rfl fun i hi => by simp only [List.getD_eq_getElem?_getD]; rw [List.getElem?_append_left hi]]
            exact hs
          · rw [hdl] at hx
            obtain ⟨w1, w2⟩ := hk x hx
            refine ⟨w1, w2.imp (fun h => h) (Or.imp (fun h => h) ?_)⟩
            rintro ⟨w3, w8⟩
            refine ⟨w3.imp (fun h => h) ?_, w8⟩
            rintro ⟨w4, q, w5, w6⟩
            have hq : q < Ds.length := hlt Ds.length o (by have := hat 0 o rfl; simpa using this) q w5
            refine ⟨w4, q, w5, by omega, ?_⟩
            simp only [List.getD_eq_getElem?_getD] at w6 ⊢
            rw [List.getElem?_append_left hq]
            exact w6
        | succ i =>
          have := h2 i o' (by simpa using ho)
          have e2 : (Ds ++ [d1]).length + i = Ds.length + (i + 1) := by simp; omega
          rw [e1, e2] at this
          exact this
      · rw [e1] at h3
        have e2 : (Ds ++ [d1]).length + r.length = Ds.length + (o :: r).length := by simp; omega
        rw [e2] at h3
        exact h3
    · obtain ⟨l, h1, h2, h3⟩ := PQ.spec hlt (hat' _) hr
      have e1 : Ds ++ [([] : Delta)] ++ l.map (·.2.2) = Ds ++ ((undef, n, ([] : Delta)) :: l).map (·.2.2) := by simp
      refine ⟨(undef, n, []) :: l, by simp [h1], fun i o' ho => ?_, ?_⟩
      · cases i with
        | zero =>
          simp at ho; subst ho
          have e0 : tf τ (o :: r) (((undef, n, ([] : Delta)) :: l).map (·.1)) 0 = τ := rfl
          have hdl : (Ds ++ ((undef, n, ([] : Delta)) :: l).map (·.2.2)).getD (Ds.length + 0) [] = [] := by simp [List.getD_eq_getElem?_getD]
          refine ⟨hd, ?_, Nat.le_refl _, fun x hx => ?_⟩
          · rw [e0, if_neg (by rw [hw]; simp), hdl]
            exact ⟨rfl, rfl, rfl⟩
          · rw [hdl] at hx; simp [keys] at hx
        | succ i =>
          have := h2 i o' (by simpa using ho)
          have e2 : (Ds ++ [([] : Delta)]).length + i = Ds.length + (i + 1) := by simp; omega
          rw [e1, e2] at this
          exact this
      · rw [e1] at h3
        have e2 : (Ds ++ [([] : Delta)]).length + r.length = Ds.length + (o :: r).length := by simp; omega
        rw [e2] at h3
        exact h3
theorem RQ.par (hE : EnvOk P E) {id : Nat} {τ : Tm} {n : Nat} {Q : Post} (hd0 : Dom n σ) (hok : parOk ops = true) (h : PQ P E m ops n md σ (fun τ' n' d => Q .normal τ' n' d) ops.toList τ n []) : RQ P E m (.region id ops true) τ n σ Q := by
  obtain ⟨l, h1, h2, h3⟩ := PQ.spec (fun j o h => B_lt hok j h) (by intro i o hi; simpa using hi) h
  have hlen : (l.map (·.1)).length = ops.size := by simp [h1]
  have hv : ∀ k, (l.map (·.1)).getD k undef = (l.getD k (undef, 0, [])).1 := fun k => by
    simp only [List.getD_eq_getElem?_getD, List.getElem?_map]
    cases l[k]? <;> rfl
  have hds : ∀ k, (([] : List Delta) ++ l.map (·.2.2)).getD k [] = (l.getD k (undef, 0, [])).2.2 := fun k => by
    simp only [List.nil_append, List.getD_eq_getElem?_getD, List.getElem?_map]
    cases l[k]? <;> rfl
  have hsel : ∀ i, i ≤ ops.size → tf τ ops.toList (l.map (·.1)) i = selT ops τ (fun k => (l.getD k (undef, 0, [])).1) allB i := fun i hi => by
    rw [tf_sel hlen i hi]
    exact selT_local fun k _ => hv k
  have hsd : ∀ (S : Nat → Bool) (k : Nat), selD (fun q => (([] : List Delta) ++ l.map (·.2.2)).getD q []) S k = selD (fun i => (l.getD i (undef, 0, [])).2.2) S k := fun S k => selD_local fun i _ => hds i
  simp only [List.length_nil, Nat.zero_add] at h2 h3
  have step : ∀ i, i < ops.size → (n :: l.map (·.2.1)).getD i 0 ≤ (n :: l.map (·.2.1)).getD (i + 1) 0 := fun i hi => (h2 i ops[i] (by simp [hi])).2.2.1
  have up : ∀ i j, i ≤ j → j ≤ ops.size → (n :: l.map (·.2.1)).getD i 0 ≤ (n :: l.map (·.2.1)).getD j 0 := by
    intro i j hij
    induction hij with
    | refl => intro _; exact Nat.le_refl _
    | @step j _ ih => intro hj; exact Nat.le_trans (ih (by omega)) (step j (by omega))
  have inI : ∀ i, ∀ x ∈ keys ((l.getD i (undef, 0, [])).2.2), i < ops.size ∧ x < (n :: l.map (·.2.1)).getD (i + 1) 0 ∧ ((n :: l.map (·.2.1)).getD i 0 ≤ x ∨ tight ops i = true ∨ ((x < n ∨ (trans ops = true ∧ ∃ q, q ∈ B ops i ∧ q < i ∧ x ∈ keys ((l.getD q (undef, 0, [])).2.2))) ∧ ∃ LI, looseIn ops i LI = true ∧ ∀ i ∈ LI, ∃ R, md.getD i none = some R ∧ x ∉ R)) := fun i x hx => by
    rcases Nat.lt_or_ge i ops.size with hi | hi
    · rw [← hds i] at hx
      obtain ⟨w1, w2⟩ := (h2 i ops[i] (by simp [hi])).2.2.2 x hx
      refine ⟨hi, w1, w2.imp (fun h => h) (Or.imp (fun h => h) ?_)⟩
      rintro ⟨w3, w8⟩
      refine ⟨w3.imp (fun h => h) ?_, w8⟩
      rintro ⟨w4, q, w5, w6, w7⟩
      exact ⟨w4, q, w5, w6, by rw [← hds q]; exact w7⟩
    · rw [List.getD_eq_getElem?_getD, List.getElem?_eq_none (by simp [h1]; omega)] at hx
      simp [keys] at hx
  have tg : ∀ t i, tight ops t = true → i < ops.size → i ≠ t → (i < t ∧ i ∈ B ops t) ∨ (t < i ∧ t ∈ B ops i ∧ ∀ k ∈ B ops t, k ∈ B ops i) := fun t i ht hi hne => by
    unfold tight at ht
    rw [List.all_eq_true] at ht
    have := ht i (List.mem_range.2 hi)
    split at this
    · rename_i hlt
      exact .inl ⟨Nat.le_of_ble_eq_true hlt, by simpa using this⟩
    · rename_i hlt
      have hlt' : ¬ i < t := fun h => hlt (Nat.ble_eq_true_of_le h)
      simp only [Bool.or_eq_true, Bool.and_eq_true, List.contains_iff_mem, List.all_eq_true] at this
      rcases this with h | ⟨h, h3⟩
      · exact absurd (Nat.eq_of_beq_eq_true h) hne
      · exact .inr ⟨by omega, h, fun k hk => h3 k hk⟩
  have inSel : ∀ (S : Nat → Bool) (k : Nat) x, x ∈ keys (selD (fun i => (l.getD i (undef, 0, [])).2.2) S k) → ∃ i, S i = true ∧ x ∈ keys ((l.getD i (undef, 0, [])).2.2) := by
    intro S k
    induction k with
    | zero => intro x hx; simp [selD, keys] at hx
    | succ k ih =>
      intro x hx
      unfold selD at hx
      split at hx
      · rename_i hS
        rw [keys_append, List.mem_append] at hx
        rcases hx with hx | hx
        · exact ⟨k, hS, hx⟩
        · exact ih x hx
      · exact ih x hx
  have hmk := Par.mk (E := E) (C := SC P E.den) (ops := ops) (m := m) (τ := τ) (n := n) (σ := σ) (fun k => (l.getD k (undef, 0, [])).1) (fun k => (n :: l.map (·.2.1)).getD k 0) (fun k => (l.getD k (undef, 0, [])).2.2) (fun k => keys ((l.getD k (undef, 0, [])).2.2)) rfl hok (fun j y hy => hy) (fun j o ho => by
    have hjs : j < ops.size := (Array.getElem?_eq_some_iff.1 ho).1
    obtain ⟨g1, g2, _⟩ := h2 j o (by simpa using ho)
    refine ⟨g1, ?_⟩
    rw [hsel j (by omega), hv j, hds j, hsd] at g2
    split at g2
    · rename_i hw
      rw [if_pos hw]
      obtain ⟨σj, k1, k2⟩ := g2
      refine k2.mono ?_
      intro x q hx0
      have hx := k1.1 x q hx0
      unfold restr
      have own : ∀ i, (n :: l.map (·.2.1)).getD i 0 ≤ x → i < ops.size → x ∈ keys ((l.getD i (undef, 0, [])).2.2) → ∀ i', x ∈ keys ((l.getD i' (undef, 0, [])).2.2) → i' = i ∨ (i ∈ B ops i' ∧ ∀ j o, ops[j]? = some o → i' ∈ B ops j → i ∈ B ops j) := by
        intro i hi his hxi i'
        induction i' using Nat.strongRecOn with
        | _ i' ih =>
          intro hx'
          obtain ⟨a1, a2, a3⟩ := inI i' x hx'
          by_cases hii : i' = i
          · exact .inl hii
          right
          have a5 := (inI i x hxi).2.1
          rcases a3 with a3 | a3 | ⟨a3 | ⟨htr, q, b1, b2, b3⟩, _⟩
          · exfalso
            rcases Nat.lt_or_gt_of_ne hii with h | h
            · have := up (i' + 1) i h (by omega); omega
            · have := up (i + 1) i' h (by omega); omega
          · rcases tg i' i a3 his (fun e => hii e.symm) with ⟨_, h⟩ | ⟨hlt, _, _⟩
            · refine ⟨h, fun j o ho hj => ?_⟩
              have hjs := (Array.getElem?_eq_some_iff.1 ho).1
              have hlt := B_lt hok j ho i' hj
              rcases tg i' j a3 hjs (by omega) with ⟨q, _⟩ | ⟨_, _, q⟩
              · omega
              · exact q i h
            · have := up (i' + 1) i hlt (by omega); omega
          · have h0 : n ≤ (n :: l.map (·.2.1)).getD i 0 := up 0 i (by omega) (by omega)
            omega
          · unfold trans at htr
            simp only [List.all_eq_true, List.mem_range, List.contains_iff_mem] at htr
            have hmem : i ∈ B ops i' := by
              rcases ih q b2 b3 with rfl | ⟨h, _⟩
              · exact b1
              · exact htr i' a1 q b1 i h
            exact ⟨hmem, fun j o ho hj => htr j (Array.getElem?_eq_some_iff.1 ho).1 i' hj i hmem⟩
      have zero : n = (n :: l.map (·.2.1)).getD 0 0 := rfl
      rw [if_neg]
      · exact hx
      · rw [List.any_eq_true]
        rintro ⟨i, _, hi⟩
        simp only [Bool.and_eq_true, List.contains_iff_mem] at hi
        obtain ⟨hl, hxi⟩ := hi
        have hl0 := hl
        simp only [loose, Bool.and_eq_true, bne_iff_ne, Bool.not_eq_true', ← Bool.not_eq_true, List.contains_iff_mem] at hl
        obtain ⟨⟨hne, hl1⟩, hl2⟩ := hl
        obtain ⟨a1, a2, a3⟩ := inI i x hxi
        have nt : tight ops i ≠ true := fun ht => by
          rcases tg i j ht hjs (fun e => hne e.symm) with ⟨_, h⟩ | ⟨_, h, _⟩
          · exact hl2 h
          · exact hl1 h
        have h0 := up 0 i (by omega) (by omega)
        rcases a3 with a4 | a3 | ⟨a3, LI, a4, a5⟩
        · by_cases hin : x ∈ keys (selD (fun i => (l.getD i (undef, 0, [])).2.2) (fun q => (B ops j).contains q) j)
          · obtain ⟨i', s1, s2⟩ := inSel _ _ x hin
            have s1' : i' ∈ B ops j := by simpa using s1
            rcases own i a4 a1 hxi i' s2 with rfl | ⟨_, h⟩
            · exact hl1 s1'
            · exact hl1 (h j o ho s1')
          · rw [app_off hin] at hx
            have : n ≤ x := by omega
            rw [hd0 x this] at hx; cases hx
        · exact nt a3
        · unfold looseIn at a4
          simp only [List.all_eq_true, List.mem_range, Bool.or_eq_true, Bool.not_eq_true', List.contains_iff_mem] at a4
          rcases a4 j hjs with h | h
          · rw [hl0] at h; cases h
          · obtain ⟨R, r1, r2⟩ := a5 j h
            exact r2 (k1.2 R r1 x q hx0)
    · rename_i hw
      rw [if_neg hw]
      exact g2)
  refine ⟨_, _, _, _, .of_run hE (.par hmk), ?_⟩
  have e := hsel ops.size (Nat.le_refl _)
  rw [hsd] at h3
  rw [show ops.toList.length = ops.size by simp, e] at h3
  exact h3
/-! Steps -/
variable {τ : Tm} {n n1 : Nat} {o : Oper} {r : List Oper} {Ds : List Delta} {v : Value} {d1 : Delta}
theorem Sub.none (σ : Store) : Sub noStore σ := fun i o h => by cases h
variable {dst : Option Nat}
theorem PQ.pure (hw : wantA ops τ o = true) (hd : dstOk m o = true) (hdst : o.dst = dst) (σj : Store) (hj : Sub σj (seenBy ops Ds σ) ∧ (∀ R, md.getD Ds.length none = some R → ∀ y q, σj y = some q → y ∈ R)) (hs : (aop E τ o).run n σj = some (v, n, [])) (h : PQ P E m ops nb md σ K r (upd τ dst v) n (Ds ++ [[]])) : PQ P E m ops nb md σ K (o :: r) τ n Ds := by
  subst hdst
  exact ⟨hd, .inl ⟨hw, v, n, [], σj, Nat.le_refl _, fun x hx => by simp [keys] at hx, hj, .op hs, h⟩⟩
theorem PQ.op (hw : wantA ops τ o = true) (hd : dstOk m o = true) (hdst : o.dst = dst) (σj : Store) (hj : Sub σj (seenBy ops Ds σ) ∧ (∀ R, md.getD Ds.length none = some R → ∀ y q, σj y = some q → y ∈ R)) (hs : (aop E τ o).run n σj = some (v, n1, d1)) (hn : n ≤ n1) (hk : ∀ x ∈ keys d1, WrOk ops nb md Ds n n1 x) (h : PQ P E m ops nb md σ K r (upd τ dst v) n1 (Ds ++ [d1])) : PQ P E m ops nb md σ K (o :: r) τ n Ds := by
  subst hdst
  exact ⟨hd, .inl ⟨hw, v, n1, d1, σj, hn, hk, hj, .op hs, h⟩⟩
theorem PQ.off (hw : wantA ops τ o = false) (hd : dstOk m o = true) (hdst : o.dst = dst) (h : PQ P E m ops nb md σ K r (upd τ dst undef) n (Ds ++ [[]])) : PQ P E m ops nb md σ K (o :: r) τ n Ds := by
  subst hdst
  exact ⟨hd, .inr ⟨hw, h⟩⟩
theorem PQ.call {cl : Call} {fo : Operand} {g : Nat} {first cap : Array Value} {as all : List Value} (hw : wantA ops τ o = true) (hd : dstOk m o = true) (hdst : o.dst = dst) (ho : o.op = .call cl) (hc : cl.callee = .value fo) (hf : args1 τ fo = some (.func (.func g) first cap)) (ha : evL τ cl.args.toList = some as) (hall : first.toList ++ as ++ cap.toList = all)
    (σj : Store) (hj : Sub σj (seenBy ops Ds σ) ∧ (∀ R, md.getD Ds.length none = some R → ∀ y q, σj y = some q → y ∈ R)) (h : CQ P E.den g all n σj (fun v n1 d1 => n ≤ n1 ∧ (∀ x ∈ keys d1, WrOk ops nb md Ds n n1 x) ∧ PQ P E m ops nb md σ K r (upd τ dst v) n1 (Ds ++ [d1]))) : PQ P E m ops nb md σ K (o :: r) τ n Ds := by
  subst hdst
  obtain ⟨v, n1, d1, hs, hn, hk, h2⟩ := h
  rw [← hall] at hs
  exact ⟨hd, .inl ⟨hw, v, n1, d1, σj, hn, hk, hj, .call ho hc hf ha hs, h2⟩⟩
end
theorem seen_sub {ops : Array Oper} {Ds : List Delta} {D V : Delta} {σ : Store} (h : selD (fun i => Ds.getD i []) (fun i => (B ops Ds.length).contains i) Ds.length = V) : Sub (app (V ++ D) σ) (seenBy ops Ds (app D σ)) := by
  unfold seenBy
  rw [h, app_append]
  exact Sub.refl _
theorem wr_new {ops : Array Oper} {nb : Nat} {md : List (Option (List Nat))} {Ds : List Delta} {n n1 x : Nat} (h1 : n ≤ x) (h2 : x < n1) : WrOk ops nb md Ds n n1 x := ⟨h2, .inl h1⟩
theorem wr_tight {ops : Array Oper} {nb : Nat} {md : List (Option (List Nat))} {Ds : List Delta} {n n1 x : Nat} (h1 : tight ops Ds.length = true) (h2 : x < n1) : WrOk ops nb md Ds n n1 x := ⟨h2, .inr (.inl h1)⟩
theorem seen_one {ops : Array Oper} {Ds : List Delta} {D V : Delta} {σ : Store} {k : Nat} {o : AObj} (h : selD (fun i => Ds.getD i []) (fun i => (B ops Ds.length).contains i) Ds.length = V) (hk : app (V ++ D) σ k = some o) : Sub (app [(k, some o)] noStore) (seenBy ops Ds (app D σ)) ∧ ∀ R', some [k] = some R' → ∀ y q, app [(k, some o)] noStore y = some q → y ∈ R' := by
  refine ⟨fun i q hi => ?_, fun R' hR y q hy => ?_⟩
  · refine seen_sub h i q ?_
    simp only [app] at hi
    split at hi
    · rename_i e; subst e; rw [hk]; exact hi
    · cases hi
  · cases hR
    simp only [app] at hy
    split at hy
    · rename_i e; subst e; simp
    · cases hy
theorem seen_any {ops : Array Oper} {Ds : List Delta} {D V : Delta} {σ : Store} (h : selD (fun i => Ds.getD i []) (fun i => (B ops Ds.length).contains i) Ds.length = V) : Sub (app (V ++ D) σ) (seenBy ops Ds (app D σ)) ∧ ∀ R', (none : Option (List Nat)) = some R' → ∀ y q, app (V ++ D) σ y = some q → y ∈ R' := ⟨seen_sub h, fun R' h => by cases h⟩
/-- A law's call, by what it means. -/
theorem law_CQ {P : Program} {f : Nat} {args args' : List Value} {N n : Nat} {ι : Inj} {σ : Store} {W : World} (hA : At N W ι σ n W) (h : CQ P noDen f args n σ (fun v _ _ => v = .bool true)) (ha : VRs ι args args') : Calls P f ⟨args'⟩ W fun e w' => e = .returned (.bool true) ∧ Below N W w' := by
  obtain ⟨v, n', d, ⟨_, _, h2⟩, rfl⟩ := h
  refine h2 N W σ ι W args' _ (Sub.refl _) hA.rel ha (fun i hi _ => hA.fresh i hi) fun κ w' v' hend hv => ?_
  cases hv
  exact ⟨rfl, hend.2.2.below⟩
theorem At.dom {N : Nat} {w0 w : World} {ι : Inj} {σ : Store} {n : Nat} (hA : At N w0 ι σ n w) : Dom n σ := fun i hi => by
  cases h : σ i with
  | none => rfl
  | some o =>
    obtain ⟨p, hp, _⟩ := hA.rel.obj i o h
    rw [hA.fresh i hi] at hp; cases hp
end Go.Proofs.YtdiofapingdlmaaV
/- The abstract machine: what each operation makes of values that are not known. -/
set_option linter.unusedVariables false
set_option linter.unusedSimpArgs false
namespace Go.Proofs.YtdiofapingdlmaaV
open Go Go.RowKit
/-- An environment without tables. -/
class Plain (E : Env) : Prop where
  s : ∀ k op l, E.sfind k op l = none
section
variable {E : Env} [hP : Plain E] {τ : Tm} {o : Oper} {n : Nat} {σ : Store}
theorem aop_plain : aop E τ o = aop0 E τ o := by
  unfold aop sop
  split
  · rename_i v h
    split at h
    · split at h
      · rw [hP.s] at h; cases h
      · cases h
    · cases h
  · rfl
variable {t u : Nat} {x y a : Operand} {k k' : IntKind} {i j m l : Nat} {v : Value} {p q r z : Int} {ob ob' : AObj} {e cs : List Value} {ti ei : TI} {op : BinOp} {b : Bool}
/-- An operation on numbers. -/
theorem r_bin (ho : o.op = .binOp op t x y u) (hx : args1 τ x = some (.int k p)) (hy : args1 τ y = some (.int k' q)) (h : abin0 E op t (.int k p) (.int k' q) = .ret v []) : (aop E τ o).run n σ = some (v, n, []) := by
  rw [aop_plain]
  unfold aop0
  simp only [ho, ev, hx, hy]
  have hg : guardOk E op t x y (.int k p) (.int k' q) = true := by cases op <;> rfl
  rw [if_pos hg]
  unfold abin
  rw [if_neg (by simp [coded]), h]
  rfl
theorem r_binS {s1 s2 : ByteArray} (ho : o.op = .binOp op t x y u) (hx : args1 τ x = some (.string s1)) (hy : args1 τ y = some (.string s2)) (h : Op.stringOp op s1 s2 = .pure v) : (aop E τ o).run n σ = some (v, n, []) := by
  rw [aop_plain]
  unfold aop0
  simp only [ho, ev, hx, hy]
  have hg : guardOk E op t x y (.string s1) (.string s2) = true := by cases op <;> rfl
  rw [if_pos hg]
  unfold abin
  rw [if_neg (by simp [coded])]
  unfold abin0
  cases op <;> simp only [h, ofSem, T.run]
/-! numbers of 64 bits -/
omit hP in
theorem b_add (h : k.wrap (p + q) = r) : abin0 E .add t (.int k p) (.int k q) = .ret (.int k r) [] := by
  unfold abin0; simp only [ne_eq, not_true_eq_false, if_false, Op.intArith]; rw [h]; rfl
omit hP in
theorem b_sub (h : k.wrap (p - q) = r) : abin0 E .sub t (.int k p) (.int k q) = .ret (.int k r) [] := by
  unfold abin0; simp only [ne_eq, not_true_eq_false, if_false, Op.intArith]; rw [h]; rfl
omit hP in
theorem b_quo (h0 : q ≠ 0) (h : k.wrap (p.tdiv q) = r) : abin0 E .quo t (.int k p) (.int k q) = .ret (.int k r) [] := by
  unfold abin0; simp only [ne_eq, not_true_eq_false, if_false, Op.intDiv, h0]; rw [h]; rfl
omit hP in
theorem b_rem (h0 : q ≠ 0) (h : p.tmod q = r) : abin0 E .rem t (.int k p) (.int k q) = .ret (.int k r) [] := by
  unfold abin0; simp only [ne_eq, not_true_eq_false, if_false, Op.intDiv, h0]; rw [h]; rfl
omit hP in
theorem b_shl (h0 : 0 ≤ q) (h : k.wrap (p * 2 ^ (min q.toNat k.bits)) = r) : abin0 E .shl t (.int k p) (.int k' q) = .ret (.int k r) [] := by
  unfold abin0; simp only [Op.shift, if_neg (show ¬ q < 0 by omega)]; rw [h]; rfl
omit hP in
theorem b_lss (h : decide (p < q) = b) : abin0 E .lss t (.int k p) (.int k q) = .ret (.bool b) [] := by subst h; unfold abin0; simp [Op.intCmp, ofSem]; rfl
omit hP in
theorem b_leq (h : decide (p ≤ q) = b) : abin0 E .leq t (.int k p) (.int k q) = .ret (.bool b) [] := by subst h; unfold abin0; simp [Op.intCmp, ofSem]; rfl
omit hP in
theorem b_gtr (h : decide (q < p) = b) : abin0 E .gtr t (.int k p) (.int k q) = .ret (.bool b) [] := by subst h; unfold abin0; simp [Op.intCmp, ofSem]; rfl
omit hP in
theorem b_geq (h : decide (q ≤ p) = b) : abin0 E .geq t (.int k p) (.int k q) = .ret (.bool b) [] := by subst h; unfold abin0; simp [Op.intCmp, ofSem]; rfl
omit hP in
theorem b_eql (h : decide (p = q) = b) : abin0 E .eql t (.int k p) (.int k q) = .ret (.bool b) [] := by
  subst h; unfold abin0; simp [Op.intCmp, ofSem]
  rw [show (p == q) = decide (p = q) from rfl]; rfl
omit hP in
theorem b_neq (h : decide (p ≠ q) = b) : abin0 E .neq t (.int k p) (.int k q) = .ret (.bool b) [] := by
  subst h; unfold abin0; simp [Op.intCmp, ofSem]
  rw [show (p != q) = decide (p ≠ q) by simp [bne, decide_not]; rfl]; simp; rfl
theorem i64_of {c : Int} (h1 : -9223372036854775808 ≤ c) (h2 : c ≤ 9223372036854775807) : IntKind.wrap .i64 c = c := by rw [IntKind.wrap_i64]; omega
theorem u64_of {c : Int} (h1 : 0 ≤ c) (h2 : c < 18446744073709551616) : IntKind.wrap .u64 c = c := by rw [IntKind.wrap_u64]; omega
/-! words of 32 bits -/
abbrev W (x : BitVec 32) : Value := .int .u32 (x.toNat : Int)
/-! objects -/
theorem get_here {i : Nat} {o : Option AObj} {d : Delta} : app ((i, o) :: d) σ i = o := by simp [app]
theorem get_there {i j : Nat} {o r : Option AObj} {d : Delta} (hn : j ≠ i) (h : app d σ j = r) : app ((i, o) :: d) σ j = r := by simp only [app]; rw [if_neg hn]; exact h
theorem r_load1 (ho : o.op = .load t a) (ha : args1 τ a = some (.pointer (some ⟨i, m, some j⟩))) (ht : E.ty t = some ti) (hz : ti.size = 1) (hg : isAgg ti.d = false) (hσ : σ i = some ob) (he : ob.es[m]? = some e) (hv : e[j]? = some v) : (aop E τ o).run n σ = some (v, n, []) := by
  rw [aop_plain]
  unfold aop0
  simp only [ho, ev, ha, ht, T.run, hσ, he]
  have hl : j < e.length := (List.getElem?_eq_some_iff.1 hv).1
  have : (e.drop j).take ti.size = [v] := by
    rw [hz, List.drop_eq_getElem_cons hl, (List.getElem?_eq_some_iff.1 hv).2]
    rfl
  rw [this, hz]
  simp [mkv, hg, orFail, T.run]
theorem r_loadA (ho : o.op = .load t a) (ha : args1 τ a = some (.pointer (some ⟨i, m, some j⟩))) (ht : E.ty t = some ti) (hg : isAgg ti.d = true) (hσ : σ i = some ob) (he : ob.es[m]? = some e) (hv : (e.drop j).take ti.size = cs) (hl : cs.length = ti.size) : (aop E τ o).run n σ = some (.agg ⟨cs⟩, n, []) := by
  rw [aop_plain]
  unfold aop0
  simp only [ho, ev, ha, ht, T.run, hσ, he, hv, hl, if_true, mkv, hg, orFail]
theorem r_store (ho : o.op = .store t a x) (ha : args1 τ a = some (.pointer (some ⟨i, m, some j⟩))) (hx : args1 τ x = some v) (ht : E.ty t = some ti) (hc : cellsL v = cs) (hl : cs.length = ti.size) (hb : cs.all oneB = true) (hσ : σ i = some ob) (hw : ob.w = true) (he : ob.es[m]? = some e) (hj : j + ti.size ≤ e.length) (hn : { ob with es := ob.es.set m (ov e j cs) } = ob') : (aop E τ o).run n σ = some (.tuple #[], n, [(i, some ob')]) := by
  rw [aop_plain]
  unfold aop0
  subst hn
  subst hc
  simp only [ho, ev, ha, hx, ht, T.run, hσ, he]
  have : (decide (j + ti.size ≤ e.length) && (cellsL v).length = ti.size && (cellsL v).all oneB && ob.w) = true := by simp [hj, hl, hb, hw]
  rw [if_pos this]
  rfl
theorem r_indexAddrS {elem : Nat} {i' c L : Nat} (ho : o.op = .indexAddr t x y) (hx : args1 τ x = some (.slice (some ⟨i, m, none⟩) L c)) (hy : args1 τ y = some (.int k z)) (ht : E.ty t = some ti) (hd : ti.d = .slice elem) (he : E.ty elem = some ei) (hz : z = (l : Nat)) (hl : l < L) (hσ : σ i = some ob) (hs : ob.sz = ei.size) : (aop E τ o).run n σ = some (.pointer (some ⟨i, m + l, some 0⟩), n, []) := by
  rw [aop_plain]
  unfold aop0
  subst hz
  simp only [ho, ev, hx, hy, ht, hd, he, Int.toNat_natCast]
  rw [if_pos (by simp; omega)]
  simp only [T.run, hσ, hs, if_true]
theorem r_indexS {s : ByteArray} (ho : o.op = .index t x y) (hx : args1 τ x = some (.string s)) (hy : args1 τ y = some (.int k z)) (ht : E.ty t = some ti) (hd : ti.d = .string) (hz : z = (l : Nat)) (hl : l < s.size) : (aop E τ o).run n σ = some (.int .u8 ((s[l]'hl).toNat : Nat), n, []) := by
  rw [aop_plain]
  unfold aop0
  subst hz
  simp only [ho, ev, hx, hy, ht, hd, Int.toNat_natCast]
  rw [dif_pos ⟨by omega, hl⟩]
  rfl
theorem r_cut {s s' : ByteArray} {lo hi : Option Operand} {vlo vhi : Option Value} {a b : Nat} (ho : o.op = .slice t x lo hi none) (hx : args1 τ x = some (.string s)) (hlo : ∀ k, evO τ lo k = k vlo) (hhi : ∀ k, evO τ hi k = k vhi) (ht : E.ty t = some ti) (hd : ti.d = .string) (h1 : bound vlo 0 = some a) (h2 : bound vhi s.size = some b) (h3 : a ≤ b) (h4 : b ≤ s.size) (h5 : s.extract a b = s') : (aop E τ o).run n σ = some (.string s', n, []) := by
  rw [aop_plain]
  unfold aop0
  have hno : ∀ k, evO τ none k = k none := fun _ => rfl
  simp only [ho, ev, hx, hlo, hhi, hno]
  simp only [aslice2, ghostOk]
  unfold aslice
  simp only [ht, hd, h1, h2, h5]
  rw [if_neg (by simp), if_pos (by simp [h3, h4])]
  rfl
theorem i64_eq {c r : Int} (h : r = c ∧ -9223372036854775808 ≤ r ∧ r ≤ 9223372036854775807) : IntKind.wrap .i64 c = r := by rw [IntKind.wrap_i64]; omega
theorem u64_eq {c r : Int} (h : r = c ∧ 0 ≤ r ∧ r < 18446744073709551616) : IntKind.wrap .u64 c = r := by rw [IntKind.wrap_u64]; omega
theorem wrap_ofNat32 (z : Nat) : IntKind.wrap .u32 (z : Int) = ((BitVec.ofNat 32 z).toNat : Int) := by
  rw [IntKind.wrap_u32, BitVec.toNat_ofNat]; omega
omit hP in
theorem b_shl8 {a : Nat} (h : a < 72057594037927936) : abin0 E .shl t (.int .u64 (a : Int)) (.int .u64 8) = .ret (.int .u64 ((a * 256 : Nat) : Int)) [] := b_shl (by decide) (by
  rw [IntKind.wrap_u64]
  show ((a : Int) * 256) % 18446744073709551616 = _
  omega)
omit hP in
theorem b_or8 {a c : Nat} (h : a < 72057594037927936) (hc : c < 256) : abin0 E .or t (.int .u64 ((a * 256 : Nat) : Int)) (.int .u64 (c : Int)) = .ret (.int .u64 ((a * 256 + c : Nat) : Int)) [] := by
  unfold abin0; simp only [ne_eq, not_true_eq_false, if_false, Op.intBits]
  have h1 : (BitVec.ofInt IntKind.u64.bits ((a * 256 : Nat) : Int) ||| BitVec.ofInt IntKind.u64.bits (c : Int)).toNat = a * 256 + c := by
    show (BitVec.ofInt 64 ((a * 256 : Nat) : Int) ||| BitVec.ofInt 64 (c : Int)).toNat = _
    rw [BitVec.ofInt_natCast, BitVec.ofInt_natCast, BitVec.toNat_or, BitVec.toNat_ofNat, BitVec.toNat_ofNat, Nat.mod_eq_of_lt (by omega), Nat.mod_eq_of_lt (by omega), Nat.mul_comm]
    exact (Nat.two_pow_add_eq_or_of_lt (i := 8) hc a).symm
  exact congrArg (fun z => T.ret (.int .u64 z) []) (show IntKind.wrap .u64 (((BitVec.ofInt IntKind.u64.bits ((a * 256 : Nat) : Int) ||| BitVec.ofInt IntKind.u64.bits (c : Int)).toNat : Nat) : Int) = _ from by rw [h1]; exact u64_of (by omega) (by omega))
omit hP in
theorem bound_nat {a d : Nat} : bound (some (.int k ((a : Nat) : Int))) d = some a := by
  show (if 0 ≤ ((a : Nat) : Int) then some ((a : Nat) : Int).toNat else none) = some a
  rw [if_pos (by omega)]
  rfl
theorem r_iaA {len elem J : Nat} (ho : o.op = .indexAddr t x y) (hx : args1 τ x = some (.pointer (some ⟨i, m, some j⟩))) (hy : args1 τ y = some (.int k z)) (ht : E.ty t = some ti) (hd : ti.d = .array len elem) (he : E.ty elem = some ei) (hz : z = (l : Nat)) (hl : l < len) (hj : j + l * ei.size = J) : (aop E τ o).run n σ = some (.pointer (some ⟨i, m, some J⟩), n, []) := by
  rw [aop_plain]
  unfold aop0
  subst hz
  subst hj
  simp only [ho, ev, hx, hy, ht, hd, he, Int.toNat_natCast]
  rw [if_pos (by simp; omega)]
  rfl
theorem r_iaS {elem : Nat} {c L J : Nat} (ho : o.op = .indexAddr t x y) (hx : args1 τ x = some (.slice (some ⟨i, m, none⟩) L c)) (hy : args1 τ y = some (.int k z)) (ht : E.ty t = some ti) (hd : ti.d = .slice elem) (he : E.ty elem = some ei) (hz : z = (l : Nat)) (hl : l < L) (hσ : σ i = some ob) (hs : ob.sz = ei.size) (hJ : J = m + l) : (aop E τ o).run n σ = some (.pointer (some ⟨i, J, some 0⟩), n, []) := by
  subst hJ
  exact r_indexAddrS (i' := 0) ho hx hy ht hd he hz hl hσ hs
theorem r_cat {s1 s2 : ByteArray} (ho : o.op = .binOp .add t x y u) (hx : args1 τ x = some (.string s1)) (hy : args1 τ y = some (.string s2)) (h : s1.size + s2.size ≤ 9223372036854775807) : (aop E τ o).run n σ = some (.string (s1 ++ s2), n, []) := by
  refine r_binS ho hx hy ?_
  unfold Op.stringOp
  simp only
  rw [if_neg]
  · rfl
  · show ¬ (((s1.size + s2.size : Nat) : Int) > 9223372036854775807)
    omega
theorem beq_bytes (s1 s2 : ByteArray) : (s1.toList == s2.toList) = decide (s1 = s2) := by
  rw [ByteArray.toList_eq, ByteArray.toList_eq, Bool.eq_iff_iff]
  simp only [beq_iff_eq, decide_eq_true_eq]
  exact ⟨fun h => ByteArray.ext (Array.ext' h), fun h => by rw [h]⟩
theorem r_eqlS {s1 s2 : ByteArray} (ho : o.op = .binOp .eql t x y u) (hx : args1 τ x = some (.string s1)) (hy : args1 τ y = some (.string s2)) : (aop E τ o).run n σ = some (.bool (decide (s1 = s2)), n, []) := by
  refine r_binS ho hx hy ?_
  unfold Op.stringOp
  simp only [beq_bytes]
  rfl
omit hP in
theorem b_quoN {a c : Nat} (h0 : 0 < c) (h : k.wrap ((a / c : Nat) : Int) = ((a / c : Nat) : Int)) : abin0 E .quo t (.int k (a : Int)) (.int k (c : Int)) = .ret (.int k ((a / c : Nat) : Int)) [] := by
  refine b_quo (by omega) ?_
  rw [← h]
  congr 1
omit hP in
theorem b_remN {a c : Nat} (h0 : 0 < c) : abin0 E .rem t (.int k (a : Int)) (.int k (c : Int)) = .ret (.int k ((a % c : Nat) : Int)) [] := b_rem (by omega) rfl
theorem r_cvt {si : TI} {s : Nat} (ho : o.op = .convert s t x) (hx : args1 τ x = some (.int k p)) (hs : E.ty s = some si) (ht : E.ty t = some ti) (hd : ti.d = .int k') (hsd : ∃ q, si.d = .int q) (h : k'.wrap p = r) : (aop E τ o).run n σ = some (.int k' r, n, []) := by
  rw [aop_plain]
  unfold aop0
  obtain ⟨q, hq⟩ := hsd
  simp only [ho, ev, hx, hs, ht, hd, hq, h, T.run]
theorem r_idxS {s : ByteArray} (ho : o.op = .index t x y) (hx : args1 τ x = some (.string s)) (hy : args1 τ y = some (.int k z)) (ht : E.ty t = some ti) (hd : ti.d = .string) (hz : z = (l : Nat)) (hl : l < s.size) : (aop E τ o).run n σ = some (.int .u8 ((s.get! l).toNat : Nat), n, []) := by
  rw [r_indexS ho hx hy ht hd hz hl]
  have : s[l]'hl = s.get! l := by
    show s.data[l]'hl = s.data[l]!
    rw [getElem!_pos]
  rw [this]
end
/-! ### What is called -/
/-- A call that gives a value and changes nothing. -/
def PS (P : Program) (D : Den) (f : Nat) (args : List Value) (σ : Store) (v : Value) : Prop := ∀ n, Dom n σ → ∃ n', n ≤ n' ∧ SC P D f args n σ v n' []
theorem CQ.ps {P : Program} {D : Den} {f : Nat} {args : List Value} {n : Nat} {σ : Store} {v : Value} {Q : Value → Nat → Delta → Prop} (hd : Dom n σ) (h : PS P D f args σ v) (hQ : ∀ n', n ≤ n' → Q v n' []) : CQ P D f args n σ Q := by
  obtain ⟨n', h1, h2⟩ := h n hd
  exact ⟨v, n', [], h2, hQ n' h1⟩
theorem PS.of_body {P : Program} {E : Env} {c : Code} {σ : Store} (hE : EnvOk P E) {f : Nat} {fn : Func} {args : List Value} {v : Value} (hf : E.fn f = some fn) (hb : fn.body = some c) (hl : args.length ≤ fn.ntmps)
    (h : ∀ n, Dom n σ → RQ P E fn.ntmps c (init args) n σ (fun x τ' n' d0 => (x = .normal ∨ x = .ret) ∧ ∃ vs, resL E τ' (Go.Proofs.YtdiofapingdlmaaV.app d0 σ) fn.results.toList = some vs ∧ one vs = v ∧ ∀ i ∈ keys d0, n ≤ i ∧ i < n')) : PS P E.den f args σ v := by
  intro n hn
  obtain ⟨x, τ', n', d0, h1, hx, vs, hr, rfl, hk⟩ := h n hn
  exact ⟨n', h1.keys.1, .of_body hE hf hb hl h1 hx hr ⟨fun x hx => by simp [keys] at hx, fun x hx => .inr (hk x hx)⟩⟩
theorem PS.mono {P : Program} {D : Den} {f : Nat} {args : List Value} {σ σ2 : Store} {v : Value} (h : PS P D f args σ v) (hs : Sub σ σ2) : PS P D f args σ2 v := fun n hn => by
  obtain ⟨n', h1, h2⟩ := h n (fun i hi => by
    cases ho : σ i with
    | none => rfl
    | some o => have := hs i o ho; rw [hn i hi] at this; cases this)
  exact ⟨n', h1, h2.mono hs⟩
/-- What a closed evaluation tells. -/
theorem Dom.up {n n' : Nat} {σ : Store} (h : Dom n σ) (hn : n ≤ n') : Dom n' σ := fun i hi => h i (by omega)
theorem Dom.new {n : Nat} {σ : Store} (h : Dom n σ) (o : Option AObj) : Dom (n + 1) (Go.Proofs.YtdiofapingdlmaaV.app [(n, o)] σ) := fun i hi => by
  simp only [Go.Proofs.YtdiofapingdlmaaV.app]; rw [if_neg (by omega)]; exact h i (by omega)
theorem Dom.put {n i : Nat} {σ : Store} (h : Dom n σ) (hi : i < n) (o : Option AObj) : Dom n (Go.Proofs.YtdiofapingdlmaaV.app [(i, o)] σ) := fun j hj => by
  simp only [Go.Proofs.YtdiofapingdlmaaV.app]; rw [if_neg (by omega)]; exact h j hj
end Go.Proofs.YtdiofapingdlmaaV
/- The abstract machine: the calculus, with one list of what was written since the call's begin. -/
set_option linter.unusedVariables false
set_option linter.unusedSimpArgs false
namespace Go.Proofs.YtdiofapingdlmaaV
open Go Go.RowKit
theorem CR.le {P : Program} {E : Env} {m : Nat} {c : Code} {τ τ' : Tm} {n n' : Nat} {σ : Store} {x : AX} {d : Delta} (h : CR P E m c τ n σ x τ' n' d) : n ≤ n' := h.keys.1
/-- Code, from a store of which 'D' was written since number 'b'; told up to what nobody asks for. -/
def RA (P : Program) (E : Env) (b : Nat) (σ : Store) (m : Nat) (c : Code) (τ : Tm) (n : Nat) (D : Delta) (Q : Post) : Prop :=
  ∃ x τ' n' e D', CR P E m c τ n (app D σ) x τ' n' e ∧ Less b n' (e ++ D) D' ∧ Q x τ' n' D'
def OA (P : Program) (E : Env) (m : Nat) (ops : Array Oper) (σ : Store) (l : List Oper) (τ : Tm) (n : Nat) (D : Delta) (K : Tm → Nat → Delta → Prop) : Prop :=
  ∃ τ' n' e, Ops E (SC P E.den) ops m l τ n (app D σ) τ' n' e ∧ n ≤ n' ∧ K τ' n' (e ++ D)
section
variable {P : Program} {E : Env} {b : Nat} {σ : Store} {m : Nat} {τ τ' : Tm} {n n' : Nat} {D D' : Delta} {Q R : Post} {c c' : Code}
theorem RA.of_RQ (h : RQ P E m c τ n (app D σ) (fun x τ' n' e => ∃ D', Less b n' (e ++ D) D' ∧ Q x τ' n' D')) : RA P E b σ m c τ n D Q := by
  obtain ⟨x, τ', n', e, h1, D', h2, h3⟩ := h
  exact ⟨x, τ', n', e, D', h1, h2, h3⟩
theorem RA.imp (h : RA P E b σ m c τ n D Q) (hQ : ∀ x τ' n' D', n ≤ n' → Q x τ' n' D' → R x τ' n' D') : RA P E b σ m c τ n D R := by
  obtain ⟨x, τ', n', e, D', h1, h2, h3⟩ := h
  exact ⟨x, τ', n', e, D', h1, h2, hQ _ _ _ _ h1.le h3⟩
theorem RA.weaken (hd : Dom b σ) (hl : Less b n D D') (h : RA P E b σ m c τ n D' Q) : RA P E b σ m c τ n D Q := by
  obtain ⟨x, τ', n', e, D2, h1, h2, h3⟩ := h
  exact ⟨x, τ', n', e, D2, h1.mono (hl.subApp hd), hl.step h2 h1.le, h3⟩
theorem RA.skip (hE : EnvOk P E) (h : Q .normal τ n D) : RA P E b σ m .skip τ n D Q := ⟨_, _, _, _, _, .of_run hE .skip, Less.refl _ _ _, h⟩
theorem RA.exit (hE : EnvOk P E) {i : Nat} (h : Q (.exit i) τ n D) : RA P E b σ m (.exit i) τ n D Q := ⟨_, _, _, _, _, .of_run hE .exit, Less.refl _ _ _, h⟩
theorem RA.ret (hE : EnvOk P E) (h : Q .ret τ n D) : RA P E b σ m .ret τ n D Q := ⟨_, _, _, _, _, .of_run hE .ret, Less.refl _ _ _, h⟩
theorem RA.region (hE : EnvOk P E) {id : Nat} {ops : Array Oper} (h : OA P E m ops σ ops.toList τ n D (fun τ' n' D' => Q .normal τ' n' D')) : RA P E b σ m (.region id ops false) τ n D Q := by
  obtain ⟨τ', n', e, h1, _, h2⟩ := h
  exact ⟨_, _, _, _, _, .of_run hE (.region h1), Less.refl _ _ _, h2⟩
theorem RA.seq (hd : Dom b σ) (h : RA P E b σ m c τ n D (fun x τ1 n1 D1 => match x with
    | .normal => n ≤ n1 → RA P E b σ m c' τ1 n1 D1 Q
    | .exit i => Q (.exit i) τ1 n1 D1
    | .ret => Q .ret τ1 n1 D1)) : RA P E b σ m (.seq c c') τ n D Q := by
  obtain ⟨x, τ1, n1, e1, D1, h1, h2, h3⟩ := h
  cases x with
  | normal =>
    obtain ⟨x, τ2, n2, e2, D2, g1, g2, g3⟩ := h3 h1.le
    have hs : Sub (app D1 σ) (app e1 (app D σ)) := by rw [← app_append]; exact h2.subApp hd
    refine ⟨x, τ2, n2, _, D2, h1.seqN (g1.mono hs), ?_, g3⟩
    rw [List.append_assoc]
    exact h2.step g2 g1.le
  | exit i => exact ⟨_, _, _, _, _, h1.seqX (by simp), h2, h3⟩
  | ret => exact ⟨_, _, _, _, _, h1.seqX (by simp), h2, h3⟩
theorem RA.cond {o : Operand} {t : Bool} (hc : args1 τ o = some (.bool t)) (h1 : t = true → RA P E b σ m c τ n D Q) (h2 : t = false → RA P E b σ m c' τ n D Q) : RA P E b σ m (.cond o c c') τ n D Q := by
  cases t with
  | true => obtain ⟨x, τ', n', e, D', k1, k2, k3⟩ := h1 rfl; exact ⟨x, τ', n', e, D', .cond hc k1, k2, k3⟩
  | false => obtain ⟨x, τ', n', e, D', k1, k2, k3⟩ := h2 rfl; exact ⟨x, τ', n', e, D', .cond hc k1, k2, k3⟩
theorem RA.block {id : Nat} (h : RA P E b σ m c τ n D (fun x τ' n' D' => Q (x.inBlock id) τ' n' D')) : RA P E b σ m (.block id c) τ n D Q := by
  obtain ⟨x, τ', n', e, D', h1, h2, h3⟩ := h
  exact ⟨_, _, _, _, _, .block h1, h2, h3⟩
theorem Less.trans {n n' : Nat} {d0 d1 d2 : Delta} (h1 : Less n n' d0 d1) (h2 : Less n n' d1 d2) : Less n n' d0 d2 :=
  ⟨fun x hx => by
    obtain ⟨a1, a2⟩ := h2.sub x hx
    obtain ⟨b1, b2⟩ := h1.sub x a1
    exact ⟨b1, fun τ => (a2 τ).trans (b2 τ)⟩, fun x hx => (h1.gone x hx).elim (fun h => h2.gone x h) .inr⟩
theorem RA.loop_aux (hd : Dom b σ) (I : Nat → Tm → Nat → Delta → Prop)
    (h : ∀ k τ n D, I k τ n D → RA P E b σ m c τ n D (fun x τ' n' D' => match x with
      | .normal => ∃ k', k' < k ∧ ∃ D'', Less b n' D' D'' ∧ I k' τ' n' D''
      | .exit i => Q (.exit i) τ' n' D'
      | .ret => Q .ret τ' n' D')) :
    ∀ k τ n D, I k τ n D → RA P E b σ m (.loop c) τ n D Q := by
  intro k
  induction k using Nat.strongRecOn with
  | _ k ih =>
    intro τ n D hI
    obtain ⟨x, τ1, n1, e1, D1, h1, h2, h3⟩ := h k τ n D hI
    cases x with
    | normal =>
      obtain ⟨k', hk, D1', hl', hI'⟩ := h3
      have h2 := h2.trans hl'
      obtain ⟨x, τ2, n2, e2, D2, g1, g2, g3⟩ := ih k' hk τ1 n1 D1' hI'
      have hs : Sub (app D1' σ) (app e1 (app D σ)) := by rw [← app_append]; exact h2.subApp hd
      refine ⟨x, τ2, n2, _, D2, h1.loopN (g1.mono hs), ?_, g3⟩
      rw [List.append_assoc]
      exact h2.step g2 g1.le
    | exit i => exact ⟨_, _, _, _, _, h1.loopX (by simp), h2, h3⟩
    | ret => exact ⟨_, _, _, _, _, h1.loopX (by simp), h2, h3⟩
/-- A loop, by what stays true of it, and a number that gets less each round. -/
theorem RA.loop (hd : Dom b σ) (I : Nat → Tm → Nat → Delta → Prop) (k0 : Nat) (h0 : I k0 τ n D)
    (h : ∀ k τ n D, I k τ n D → RA P E b σ m c τ n D (fun x τ' n' D' => match x with
      | .normal => ∃ k', k' < k ∧ ∃ D'', Less b n' D' D'' ∧ I k' τ' n' D''
      | .exit i => Q (.exit i) τ' n' D'
      | .ret => Q .ret τ' n' D')) : RA P E b σ m (.loop c) τ n D Q := RA.loop_aux hd I h k0 τ n D h0
theorem Less.of {n n' : Nat} {d0 d : Delta} (h1 : ∀ p ∈ d, p.1 ∈ keys d0 ∧ ∀ τ : Store, app d τ p.1 = app d0 τ p.1) (h2 : ∀ x ∈ keys d0, x ∈ keys d ∨ (n ≤ x ∧ x < n')) : Less n n' d0 d := by
  refine ⟨fun x hx => ?_, h2⟩
  simp only [keys, List.mem_map] at hx
  obtain ⟨p, hp, rfl⟩ := hx
  exact h1 p hp
/-- A call, by its function's body. -/
theorem CQ.body (hE : EnvOk P E) {f : Nat} {fn : Func} {args : List Value} {Q : Value → Nat → Delta → Prop} (hd : Dom n σ) (hf : E.fn f = some fn) (hb : fn.body = some c) (hl : args.length ≤ fn.ntmps)
    (h : RA P E n σ fn.ntmps c (init args) n [] (fun x τ' n' D => (x = .normal ∨ x = .ret) ∧ ∃ vs, resL E τ' (app D σ) fn.results.toList = some vs ∧ ∃ d, Less n n' D d ∧ Q (one vs) n' d)) : CQ P E.den f args n σ Q := by
  obtain ⟨x, τ', n', e, D', h1, h2, hx, vs, hr, d, hl2, hq⟩ := h
  rw [List.append_nil] at h2
  exact ⟨_, _, _, .of_body hE hf hb hl (h1.less h2) hx hr hl2, hq⟩
theorem PS.body (hE : EnvOk P E) {f : Nat} {fn : Func} {args : List Value} {v : Value} (hf : E.fn f = some fn) (hb : fn.body = some c) (hl : args.length ≤ fn.ntmps)
    (h : ∀ n, Dom n σ → RA P E n σ fn.ntmps c (init args) n [] (fun x τ' n' D => (x = .normal ∨ x = .ret) ∧ ∃ vs, resL E τ' (app D σ) fn.results.toList = some vs ∧ one vs = v ∧ ∀ i ∈ keys D, n ≤ i ∧ i < n')) : PS P E.den f args σ v := by
  intro n hn
  obtain ⟨x, τ', n', e, D', h1, h2, hx, vs, hr, rfl, hk⟩ := h n hn
  rw [List.append_nil] at h2
  exact ⟨n', h1.le, .of_body hE hf hb hl (h1.less h2) hx hr ⟨fun x hx => by simp [keys] at hx, fun x hx => .inr (hk x hx)⟩⟩
variable {ops : Array Oper} {o : Oper} {r : List Oper} {K : Tm → Nat → Delta → Prop} {v : Value} {dst : Option Nat} {n1 : Nat} {d1 : Delta}
theorem OA.nil (h : K τ n D) : OA P E m ops σ [] τ n D K := ⟨_, _, _, .nil, Nat.le_refl _, h⟩
theorem OA.pure (hw : wantA ops τ o = true) (hd : dstOk m o = true) (hdst : o.dst = dst) (hs : (aop E τ o).run n (app D σ) = some (v, n, [])) (h : OA P E m ops σ r (upd τ dst v) n D K) : OA P E m ops σ (o :: r) τ n D K := by
  subst hdst
  obtain ⟨τ', n', d, h1, h0, h2⟩ := h
  exact ⟨τ', n', _, .on hw hd (.op hs) h1, h0, by rw [List.append_nil]; exact h2⟩
theorem OA.op (hw : wantA ops τ o = true) (hd : dstOk m o = true) (hdst : o.dst = dst) (hs : (aop E τ o).run n (app D σ) = some (v, n1, d1)) (hn : n ≤ n1) (hD : d1 ++ D = D') (h : OA P E m ops σ r (upd τ dst v) n1 D' K) : OA P E m ops σ (o :: r) τ n D K := by
  subst hdst
  subst hD
  obtain ⟨τ', n', d, h1, h0, h2⟩ := h
  rw [app_append] at h1
  exact ⟨τ', n', _, .on hw hd (.op hs) h1, by omega, by rw [List.append_assoc]; exact h2⟩
theorem OA.off (hw : wantA ops τ o = false) (hd : dstOk m o = true) (hdst : o.dst = dst) (h : OA P E m ops σ r (upd τ dst undef) n D K) : OA P E m ops σ (o :: r) τ n D K := by
  subst hdst
  obtain ⟨τ', n', d, h1, h2⟩ := h
  exact ⟨τ', n', _, .off hw hd h1, h2⟩
theorem OA.call {cl : Call} {fo : Operand} {g : Nat} {first cap : Array Value} {as all : List Value} (hw : wantA ops τ o = true) (hd : dstOk m o = true) (hdst : o.dst = dst) (ho : o.op = .call cl) (hc : cl.callee = .value fo) (hf : args1 τ fo = some (.func (.func g) first cap)) (ha : evL τ cl.args.toList = some as) (hall : first.toList ++ as ++ cap.toList = all)
    (h : CQ P E.den g all n (app D σ) (fun v n1 d1 => n ≤ n1 → OA P E m ops σ r (upd τ dst v) n1 (d1 ++ D) K)) : OA P E m ops σ (o :: r) τ n D K := by
  subst hdst
  subst hall
  obtain ⟨v, n1, d1, hs, h0⟩ := h
  have hn := hs.2.1.1
  obtain ⟨τ', n', d, h1, h2, h3⟩ := h0 hn
  rw [app_append] at h1
  exact ⟨τ', n', _, .on hw hd (.call ho hc hf ha hs) h1, by omega, by rw [List.append_assoc]; exact h3⟩
/-- A call that changes nothing. -/
theorem OA.callP {cl : Call} {fo : Operand} {g : Nat} {first cap : Array Value} {as all : List Value} (hdom : Dom n (app D σ)) (hw : wantA ops τ o = true) (hd : dstOk m o = true) (hdst : o.dst = dst) (ho : o.op = .call cl) (hc : cl.callee = .value fo) (hf : args1 τ fo = some (.func (.func g) first cap)) (ha : evL τ cl.args.toList = some as) (hall : first.toList ++ as ++ cap.toList = all)
    (hp : PS P E.den g all (app D σ) v) (h : ∀ n1, n ≤ n1 → OA P E m ops σ r (upd τ dst v) n1 D K) : OA P E m ops σ (o :: r) τ n D K :=
  OA.call hw hd hdst ho hc hf ha hall (CQ.ps hdom hp fun n1 hn hn' => h n1 hn)
theorem RA.par (hE : EnvOk P E) {id : Nat} (hd : Dom n (app D σ)) (hok : parOk ops = true) {md : List (Option (List Nat))} (h : PQ P E m ops n md (app D σ) (fun τ' n' d => Q .normal τ' n' (d ++ D)) ops.toList τ n []) : RA P E b σ m (.region id ops true) τ n D Q :=
  RA.of_RQ ((RQ.par (Q := fun x τ' n' e => x = .normal ∧ Q .normal τ' n' (e ++ D)) hE hd hok (PQ.imp h)).imp fun x τ' n' e ⟨h1, h2⟩ => ⟨_, Less.refl _ _ _, h1 ▸ h2⟩)
where
  PQ.imp {ops : Array Oper} {nb : Nat} {md : List (Option (List Nat))} {σ : Store} {K : Tm → Nat → Delta → Prop} : ∀ {l : List Oper} {τ : Tm} {n : Nat} {Ds : List Delta}, PQ P E m ops nb md σ K l τ n Ds → PQ P E m ops nb md σ (fun τ' n' d => AX.normal = AX.normal ∧ K τ' n' d) l τ n Ds
  | [], _, _, _, h => ⟨rfl, h⟩
  | o :: r, _, _, _, ⟨h1, h2⟩ => ⟨h1, h2.imp (fun ⟨a, v, n1, d1, σj, b1, b2, b3, b4, b5⟩ => ⟨a, v, n1, d1, σj, b1, b2, b3, b4, PQ.imp b5⟩) fun ⟨a, b⟩ => ⟨a, PQ.imp b⟩⟩
theorem PQ.done {nb : Nat} {md : List (Option (List Nat))} {Ds : List Delta} {d : Delta} (hd : selD (fun i => Ds.getD i []) allB Ds.length = d) (h : K τ n d) : PQ P E m ops nb md σ K [] τ n Ds := by
  subst hd; exact h
theorem PQ.callP {nb : Nat} {md : List (Option (List Nat))} {Ds : List Delta} {cl : Call} {fo : Operand} {g : Nat} {first cap : Array Value} {as all : List Value} (σj : Store) (hdom : Dom n σj) (hw : wantA ops τ o = true) (hd : dstOk m o = true) (hdst : o.dst = dst) (ho : o.op = .call cl) (hc : cl.callee = .value fo) (hf : args1 τ fo = some (.func (.func g) first cap)) (ha : evL τ cl.args.toList = some as) (hall : first.toList ++ as ++ cap.toList = all)
    (hj : Sub σj (seenBy ops Ds σ) ∧ (∀ R, md.getD Ds.length none = some R → ∀ y q, σj y = some q → y ∈ R)) (hp : PS P E.den g all σj v) (h : ∀ n1, n ≤ n1 → PQ P E m ops nb md σ K r (upd τ dst v) n1 (Ds ++ [[]])) : PQ P E m ops nb md σ K (o :: r) τ n Ds :=
  PQ.call hw hd hdst ho hc hf ha hall σj hj (CQ.ps hdom hp fun n1 hn => ⟨hn, fun x hx => by simp [keys] at hx, h n1 hn⟩)
/-- All that 'D' names is below 'n'. -/
theorem Dom.of {n0 : Nat} (h : Dom n0 σ) (hn : n0 ≤ n) (hk : ∀ i ∈ keys D, i < n) : Dom n (Go.Proofs.YtdiofapingdlmaaV.app D σ) := by
  intro i hi
  rw [app_off (fun hm => by have := hk i hm; omega)]
  exact h i (by omega)
theorem RA.rebase (l : List (Nat × Value)) (hl : Has τ l) (h : ∀ τ0, RA P E b σ m c (upds τ0 l) n D Q) : RA P E b σ m c τ n D Q := by
  have := h τ
  rw [← hl.eq] at this
  exact this
omit P in
theorem resL_nil : resL E τ σ [] = some [] := rfl
omit P in
theorem resL_cons {r : ResultVar} {l : List ResultVar} {vs : List Value} (h1 : res1 E τ σ r = some v) (h2 : resL E τ σ l = some vs) : resL E τ σ (r :: l) = some (v :: vs) := by simp only [resL, h1, h2]
omit P in
theorem res_cellA {a t i k j : Nat} {ti : TI} {ob : AObj} {e cs : List Value} (ha : τ a = .pointer (some ⟨i, k, some j⟩)) (ht : E.ty t = some ti) (hg : isAgg ti.d = true) (hσ : σ i = some ob) (he : ob.es[k]? = some e) (hv : (e.drop j).take ti.size = cs) (hl : cs.length = ti.size) : res1 E τ σ (.cell a t) = some (.agg ⟨cs⟩) := by
  simp only [res1, ha, ht, hσ, he, hv, hl, if_true, mkv, hg]
theorem dom_none (n : Nat) : Dom n noStore := fun _ _ => rfl
end
end Go.Proofs.YtdiofapingdlmaaV
/- The abstract machine: bytes and words in slices. -/
set_option linter.unusedVariables false
set_option linter.unusedSimpArgs false
namespace Go.Proofs.YtdiofapingdlmaaV
open Go Go.RowKit
def bstr (l : List UInt8) : ByteArray := ⟨l.toArray⟩
def b8 (b : UInt8) : List Value := [.int .u8 ((b.toNat : Nat) : Int)]
def bc (l : List UInt8) : List (List Value) := l.map b8
abbrev L (s : ByteArray) : List UInt8 := s.data.toList
theorem L_bstr (l : List UInt8) : L (bstr l) = l := rfl
theorem bstr_L (s : ByteArray) : bstr (L s) = s := rfl
theorem L_ext {s t : ByteArray} (h : L s = L t) : s = t := ByteArray.ext (Array.ext' h)
theorem L_append (s t : ByteArray) : L (s ++ t) = L s ++ L t := by
  simp only [L]
  rw [ByteArray.data_append, Array.toList_append]
theorem L_len (s : ByteArray) : (L s).length = s.size := by show s.data.toList.length = s.data.size; rw [Array.length_toList]
theorem L_extract (s : ByteArray) (a b : Nat) : L (s.extract a b) = ((L s).drop a).take (b - a) := by
  simp only [L, ByteArray.data_extract, Array.toList_extract]
theorem bstr_size (l : List UInt8) : (bstr l).size = l.length := by
  show l.toArray.size = l.length
  exact List.size_toArray
theorem size_cut (s : ByteArray) (a b : Nat) (h : b ≤ s.size) : (s.extract a b).size = b - a := by rw [ByteArray.size_extract]; omega
theorem L_get (s : ByteArray) (i : Nat) (h : i < s.size) : (L s)[i]? = some (s.get! i) := by
  have h1 : s.get! i = s.data[i]! := rfl
  rw [h1, getElem!_pos s.data i h]
  simp only [L, Array.getElem?_toList]
  rw [Array.getElem?_eq_getElem]
theorem bc_len (l : List UInt8) : (bc l).length = l.length := by simp [bc]
theorem bytesOfL_bc (l : List UInt8) : ∀ s, bytesOfL (bc l) s = some (s ++ bstr l) := by
  induction l with
  | nil => intro s; simp only [bc, List.map_nil, bytesOfL]; congr 1; apply L_ext; rw [L_append, L_bstr, List.append_nil]
  | cons b l ih =>
    intro s
    show bytesOfL ([.int .u8 ((b.toNat : Nat) : Int)] :: bc l) s = _
    simp only [bytesOfL]
    rw [ih]
    congr 1
    apply L_ext
    rw [L_append, L_append, L_bstr, L_bstr, Int.toNat_natCast, UInt8.ofNat_toNat]
    simp [L]
theorem size_lit (a : Array UInt8) : (ByteArray.mk a).size = a.size := rfl
section
variable {P : Program} {E : Env} {b : Nat} {σ : Store} {m : Nat} {τ : Tm} {n : Nat} {D : Delta} {Q : Post} {c : Code}
theorem RA.unroll (hd : Dom b σ) (h : RA P E b σ m c τ n D (fun x τ1 n1 D1 => match x with
    | .normal => n ≤ n1 → RA P E b σ m (.loop c) τ1 n1 D1 Q
    | .exit i => Q (.exit i) τ1 n1 D1
    | .ret => Q .ret τ1 n1 D1)) : RA P E b σ m (.loop c) τ n D Q := by
  obtain ⟨x, τ1, n1, e1, D1, h1, h2, h3⟩ := h
  cases x with
  | normal =>
    obtain ⟨x, τ2, n2, e2, D2, g1, g2, g3⟩ := h3 h1.le
    have hs : Sub (app D1 σ) (app e1 (app D σ)) := by rw [← app_append]; exact h2.subApp hd
    refine ⟨x, τ2, n2, _, D2, h1.loopN (g1.mono hs), ?_, g3⟩
    rw [List.append_assoc]
    exact h2.step g2 g1.le
  | exit i => exact ⟨_, _, _, _, _, h1.loopX (by simp), h2, h3⟩
  | ret => exact ⟨_, _, _, _, _, h1.loopX (by simp), h2, h3⟩
end
section
variable {E : Env} [hP : Plain E] {τ : Tm} {o : Oper} {n : Nat} {σ : Store}
variable {t u : Nat} {x y a : Operand} {k k' : IntKind} {i j m l : Nat} {v : Value} {p q r z : Int} {ob ob' : AObj} {e cs : List Value} {ti ei : TI} {op : BinOp} {b : Bool}
theorem r_b2s {s elem c N O : Nat} {si : TI} {lb : List UInt8} {ty : Nat} (ho : o.op = .convert s t x) (hx : args1 τ x = some (.slice (some ⟨i, O, none⟩) N c)) (hs : E.ty s = some si) (ht : E.ty t = some ti) (hsd : si.d = .slice elem) (htd : ti.d = .string) (he : E.ty elem = some ei) (hd : ei.d = .int .u8)
    {w : Bool} (hσ : σ i = some ⟨bc lb, 1, ty, w⟩) (hl : O + N ≤ lb.length) : (aop E τ o).run n σ = some (.string (bstr ((lb.drop O).take N)), n, []) := by
  rw [aop_plain]
  unfold aop0
  simp only [ho, ev, hx, hs, ht, hsd, htd, he, hd]
  unfold astr
  by_cases hN : N = 0
  · subst hN
    simp only [if_true, T.run, List.take_zero]
    rfl
  · simp only [if_neg hN, T.run, hσ]
    have h1 : ((bc lb).drop O).take N = bc ((lb.drop O).take N) := by simp only [bc, List.map_drop, List.map_take]
    have h2 : (((bc lb).drop O).take N).length = N := by rw [h1, bc_len, List.length_take, List.length_drop]; omega
    rw [if_pos ⟨trivial, h2⟩, h1, bytesOfL_bc]
    simp only [T.run]
    congr 2
theorem wrap_u8n (z : Nat) : IntKind.wrap .u8 (z : Int) = (((UInt8.ofNat z).toNat : Nat) : Int) := by
  rw [IntKind.wrap_u8]
  have : (UInt8.ofNat z).toNat = z % 256 := by simp [UInt8.toNat_ofNat']
  omega
end
end Go.Proofs.YtdiofapingdlmaaV
/- The abstract machine: a closed call, wherever it is made; sealed laws. -/
set_option linter.unusedVariables false
set_option linter.unusedSimpArgs false
namespace Go.Proofs.YtdiofapingdlmaaV
open Go Go.RowKit
def flat : Value → Bool
  | .int _ _ | .bool _ | .string _ => true
  | _ => false
theorem flat_eq {ι : Inj} {v v' : Value} (h : VR ι v v') (hf : flat v = true) : v' = v := by
  cases h <;> first | rfl | (simp [flat] at hf)
theorem flat_VR {v : Value} (ι : Inj) (hf : flat v = true) : VR ι v v := by
  cases v <;> first | (exact .int _ _) | (exact .bool _) | (exact .str _) | (simp [flat] at hf)
theorem flats_eq {ι : Inj} : ∀ {l l' : List Value}, VRs ι l l' → l.all flat = true → l' = l
  | _, _, .nil, _ => rfl
  | _, _, .cons h hs, hf => by
    simp only [List.all_cons, Bool.and_eq_true] at hf
    rw [flat_eq h hf.1, flats_eq hs hf.2]
theorem flats_VR (ι : Inj) : ∀ {l : List Value}, l.all flat = true → VRs ι l l
  | [], _ => .nil
  | v :: l, hf => by
    simp only [List.all_cons, Bool.and_eq_true] at hf
    exact .cons (flat_VR ι hf.1) (flats_VR ι hf.2)
theorem SC.anywhere {P : Program} {f : Nat} {args : List Value} {n0 n' : Nat} {v : Value} {d : Delta} (h : SC P noDen f args n0 noStore v n' d) (ha : args.all flat = true) (hv : flat v = true) (n : Nat) (σ : Store) : SC P noDen f args n σ v n [] := by
  refine ⟨h.1, ⟨Nat.le_refl _, fun i hi => by simp [keys] at hi⟩, fun N w0 σ2 ι w args' R hs hR hargs hf hK => ?_⟩
  have e := flats_eq hargs ha
  subst e
  refine h.2.2 w.heap.size w noStore noIds w args' R (Sub.refl _) (rel_none w) (flats_VR _ ha) (fun _ _ _ => rfl) fun κ w' v' hend hv' => ?_
  have e2 := flat_eq hv' hv
  subst e2
  have hb := hend.2.2.below
  refine hK ι w' v' ⟨Inj.le_refl _, fun i hi => absurd rfl hi, ?_⟩ (flat_VR _ hv)
  have hsz := hb.size
  have h1 := hR.below
  have h2 := hR.size
  refine ⟨⟨hb.os.trans h1.os, hb.tape.trans h1.tape, hb.output.trans h1.output, Nat.le_trans h1.size hsz, fun k hk => ?_⟩, Nat.le_trans h2 hsz, fun i o e => ?_, hR.sep, hR.den⟩
  · rw [hb.block k (Nat.lt_of_lt_of_le hk h2)]; exact h1.block k hk
  · obtain ⟨p, g1, g2, g3⟩ := hR.obj i o e
    exact ⟨p, g1, g2.imp (fun h => h) (fun h => Nat.lt_of_lt_of_le h hsz), g3.keep (Inj.le_refl _) (g2.imp (fun h => h) (hb.block _))⟩
theorem PS.closed {P : Program} {E : Env} (hE : EnvOk P E) (hd : E.den = noDen) {F k f : Nat} {args : List Value} {v : Value} {σ : Store} (h : (xcall E F k f args 0 noStore).map (·.1) = some v) (ha : args.all flat = true) (hv : flat v = true) : PS P noDen f args σ v := by
  intro n _
  cases hx : xcall E F k f args 0 noStore with
  | none => rw [hx] at h; cases h
  | some r =>
    obtain ⟨v', n', d⟩ := r
    rw [hx] at h
    simp at h
    subst h
    have := SC.of_callK hE (xcall_sound k hx)
    rw [hd] at this
    exact ⟨n, Nat.le_refl _, SC.anywhere this ha hv n σ⟩
def right : Nat → Code → Code
  | 0, c => c
  | k + 1, .seq _ b => right k b
  | _ + 1, c => c
theorem PS.to {P : Program} {D : Den} {f : Nat} {args : List Value} {σ : Store} {v w : Value} (h : PS P D f args σ v) (e : v = w) : PS P D f args σ w := e ▸ h
section
variable {E : Env} [hP : Plain E] {τ : Tm} {o : Oper} {n : Nat} {σ : Store} {t u : Nat} {k k' : IntKind} {p : Int}
theorem r_min {cl : Call} {a b : Nat} (ho : o.op = .call cl) (hc : cl.callee = .builtin .min) (ha : evL τ cl.args.toList = some [.int k ((a : Nat) : Int), .int k' ((b : Nat) : Int)]) : (aop E τ o).run n σ = some (.int k ((min a b : Nat) : Int), n, []) := by
  rw [aop_plain]
  unfold aop0
  have h : amin .lss [.int k ((a : Nat) : Int), .int k' ((b : Nat) : Int)] = some (.int k ((min a b : Nat) : Int)) := by
    unfold amin
    simp only [amin.go, if_true, decide_eq_true_eq]
    split
    · rw [Nat.min_eq_right (by omega)]
    · rw [Nat.min_eq_left (by omega)]
  simp only [ho, hc, ha, abuiltin, h, orFail, T.run]
theorem seen1 {m c' sz ty' : Nat} {w' : Bool} {cs : List Value} {K : List (List Value) → T} (hm : σ m = some ⟨[cs], sz, ty', w'⟩) : (seen sz (.slice (some ⟨m, 0, none⟩) 1 c') K).run n σ = (K [cs]).run n σ := by
  simp only [seen, Nat.one_ne_zero, if_false, T.run, hm]
  rw [if_pos (by exact ⟨trivial, rfl⟩)]
  rfl
theorem r_append0 {cl : Call} {r : List Nat} {ti ui ei : TI} {elem m c' ty' sz : Nat} {w' : Bool} {cs : List Value} (ho : o.op = .call cl) (hc : cl.callee = .builtin .append) (hat : cl.argTypes.toList = t :: u :: r) (ha : evL τ cl.args.toList = some [.slice none 0 0, .slice (some ⟨m, 0, none⟩) 1 c']) (ht : E.ty t = some ti) (hu : E.ty u = some ui) (hd : ti.d = .slice elem) (hud : ui.d = .slice elem) (he : E.ty elem = some ei) (hsz : ei.size = sz) (hz : 0 < sz) (hm : σ m = some ⟨[cs], sz, ty', w'⟩) (hb : ei.bytes ≤ 65536) :
    (aop E τ o).run n σ = some (.slice (some ⟨n, 0, none⟩) 1 0, n + 1, [(n, some ⟨[cs], sz, elem, true⟩)]) := by
  rw [aop_plain]
  unfold aop0
  simp only [ho, hc, ha, hat, abuiltin, ht, hu, hd, hud, he, hsz]
  rw [if_neg (by omega), seen1 hm]
  unfold aappend
  simp only [List.isEmpty_cons, Bool.false_eq_true, if_false, List.length_singleton, hsz]
  rw [if_pos (by simp [small, hb, hz])]
  simp only [newRowT, T.run, List.length_singleton]
theorem r_max {cl : Call} {a b : Nat} (ho : o.op = .call cl) (hc : cl.callee = .builtin .max) (ha : evL τ cl.args.toList = some [.int k ((a : Nat) : Int), .int k' ((b : Nat) : Int)]) : (aop E τ o).run n σ = some (.int k ((max a b : Nat) : Int), n, []) := by
  rw [aop_plain]
  unfold aop0
  have h : amin .gtr [.int k ((a : Nat) : Int), .int k' ((b : Nat) : Int)] = some (.int k ((max a b : Nat) : Int)) := by
    unfold amin
    simp only [amin.go, reduceCtorEq, if_false, decide_eq_true_eq]
    split
    · rw [Nat.max_eq_right (by omega)]
    · rw [Nat.max_eq_left (by omega)]
  simp only [ho, hc, ha, abuiltin, h, orFail, T.run]
def andN (n : Int) (M : Nat) : Nat := (BitVec.ofInt 64 n &&& BitVec.ofInt 64 (M : Int)).toNat
theorem andN_le (n : Int) (M : Nat) (hM : M < 2147483648) : andN n M ≤ M := by
  unfold andN
  have h1 : (BitVec.ofInt 64 (M : Int)).toNat = M := by simp; omega
  rw [BitVec.toNat_and, h1]
  exact Nat.and_le_right
omit hP in
theorem b_andN (n : Int) (M : Nat) (hM : M < 2147483648) : abin0 E .and t (.int .i64 n) (.int .i64 (M : Int)) = .ret (.int .i64 ((andN n M : Nat) : Int)) [] := by
  unfold abin0; simp only [ne_eq, not_true_eq_false, if_false, Op.intBits]
  have h2 := andN_le n M hM
  exact congrArg (fun z => T.ret (.int .i64 z) []) (show IntKind.wrap .i64 ((andN n M : Nat) : Int) = _ from i64_of (by omega) (by omega))
end
end Go.Proofs.YtdiofapingdlmaaV
/- The abstract machine: operations that write one object, told shortly. -/
set_option linter.unusedVariables false
set_option linter.unusedSimpArgs false
namespace Go.Proofs.YtdiofapingdlmaaV
open Go Go.RowKit
section
variable {P : Program} {E : Env} {b : Nat} {σ : Store} {m : Nat} {τ τ' : Tm} {n n' : Nat} {D D' : Delta} {ops : Array Oper} {o : Oper} {r : List Oper} {K : Tm → Nat → Delta → Prop} {v : Value} {dst : Option Nat} {n1 : Nat} {w w2 : Nat × Option AObj}
theorem OA.op1 (hw : wantA ops τ o = true) (hd : dstOk m o = true) (hdst : o.dst = dst) (hs : (aop E τ o).run n (app D σ) = some (v, n1, [w])) (hn : n ≤ n1) (h : OA P E m ops σ r (upd τ dst v) n1 (w :: D) K) : OA P E m ops σ (o :: r) τ n D K := OA.op hw hd hdst hs hn rfl h
theorem OA.app0 (h : OA P E m ops σ r τ n D K) : OA P E m ops σ r τ n ([] ++ D) K := h
theorem OA.app1 (h : OA P E m ops σ r τ n (w :: D) K) : OA P E m ops σ r τ n ([w] ++ D) K := h
end
end Go.Proofs.YtdiofapingdlmaaV
/- The abstract machine: objects of whose end nobody asks any more; lists of records. -/
set_option linter.unusedVariables false
set_option linter.unusedSimpArgs false
namespace Go.Proofs.YtdiofapingdlmaaV
open Go Go.RowKit
/-- The first elements of an object. -/
def shr (o : AObj) (k : Nat) : AObj := { o with es := o.es.take k }
theorem take_some {α : Type} {l : List α} {k i : Nat} {e : α} (h : (l.take k)[i]? = some e) : l[i]? = some e := by
  rw [List.getElem?_take] at h
  split at h
  · exact h
  · cases h
theorem ObjR.shr {N : Nat} {ι : Inj} {o : AObj} {p : Place} {w : World} (h : ObjR N ι o p w) (k : Nat) : ObjR N ι (shr o k) p w where
  sz := h.sz
  pos := h.pos
  cap := by
    have := h.cap
    show (o.es.take k).length ≤ _
    rw [List.length_take]; omega
  len := fun i e he => h.len i e (take_some he)
  cell := fun i e he => h.cell i e (take_some he)
  own' := fun hw => (h.own' hw).imp (fun g => ⟨by show o.es.take k = []; rw [g.1]; exact List.take_nil, g.2⟩) (fun g => g)
  mp := h.mp
theorem Rel.shr {D : Den} {N : Nat} {w0 w : World} {ι : Inj} {σ : Store} (h : Rel D N w0 ι σ w) {j : Nat} {ob : AObj} (hj : σ j = some ob) (k : Nat) : Rel D N w0 ι (app [(j, some (Go.Proofs.YtdiofapingdlmaaV.shr ob k))] σ) w where
  below := h.below
  size := h.size
  obj := fun i o e => by
    by_cases hi : i = j
    · subst hi
      rw [show app [(i, some (Go.Proofs.YtdiofapingdlmaaV.shr ob k))] σ i = some (Go.Proofs.YtdiofapingdlmaaV.shr ob k) by simp [app]] at e
      injection e with e
      subst e
      obtain ⟨p, h1, h2, h3⟩ := h.obj i ob hj
      exact ⟨p, h1, h2.imp (fun g => ⟨by show ob.es.take k = []; rw [g.1]; exact List.take_nil, g.2⟩) (fun g => g), h3.shr k⟩
    · rw [show app [(j, some (Go.Proofs.YtdiofapingdlmaaV.shr ob k))] σ i = σ i by simp [app, hi]] at e
      exact h.obj i o e
  sep := fun i i' o o' p p' e e' hp hp' hne hw => by
    have key : ∀ (x : Nat) (q : AObj), app [(j, some (Go.Proofs.YtdiofapingdlmaaV.shr ob k))] σ x = some q → ∃ q', σ x = some q' ∧ q'.own = q.own ∧ (q'.es = [] → q.es = []) := fun x q e => by
      by_cases hi : x = j
      · subst hi
        rw [show app [(x, some (Go.Proofs.YtdiofapingdlmaaV.shr ob k))] σ x = some (Go.Proofs.YtdiofapingdlmaaV.shr ob k) by simp [app]] at e
        injection e with e
        subst e
        exact ⟨ob, hj, rfl, fun g => by show ob.es.take k = []; rw [g]; exact List.take_nil⟩
      · rw [show app [(j, some (Go.Proofs.YtdiofapingdlmaaV.shr ob k))] σ x = σ x by simp [app, hi]] at e
        exact ⟨q, e, rfl, fun g => g⟩
    obtain ⟨q, g1, g2, g5⟩ := key i o e
    obtain ⟨q', g3, g4, g6⟩ := key i' o' e'
    exact (h.sep i i' q q' p p' g1 g3 hp hp' hne (by rw [g2]; exact hw)).imp (fun g => ⟨g5 g.1, g.2⟩) (Or.imp (fun g => ⟨g6 g.1, g.2⟩) (fun g => g))
  den := h.den
theorem SC.shr {P : Program} {D : Den} {f : Nat} {args : List Value} {n n' : Nat} {σ : Store} {v : Value} {d : Delta} (h : SC P D f args n σ v n' d) {j : Nat} {ob : AObj} (hj : app d σ j = some ob) (k : Nat) : SC P D f args n σ v n' ((j, some (Go.Proofs.YtdiofapingdlmaaV.shr ob k)) :: d) := by
  refine ⟨h.1, ⟨h.2.1.1, fun i hi => ?_⟩, fun N w0 σ2 ι w args' R hs hR hargs hf hK => h.2.2 N w0 σ2 ι w args' R hs hR hargs hf fun κ w' v' hend hv => hK κ w' v' ⟨hend.1, hend.2.1, ?_⟩ hv⟩
  · by_cases hm : i ∈ keys d
    · exact h.2.1.2 i hm
    · have : i = j := by
        simp only [keys, List.map_cons, List.mem_cons] at hi
        exact hi.resolve_right hm
      subst this
      rw [app_off hm] at hj
      left; rw [hj]; rfl
  · have := hend.2.2.shr (j := j) (ob := ob) (Sub.app hs d j ob hj) k
    rw [← app_append] at this
    exact this
theorem CR.shr {P : Program} {E : Env} {m : Nat} {c : Code} {τ τ' : Tm} {n n' : Nat} {σ : Store} {x : AX} {d : Delta} {j : Nat} {ob : AObj} (hj : σ j = some ob) (k : Nat) (h : CR P E m c τ n (app [(j, some (Go.Proofs.YtdiofapingdlmaaV.shr ob k))] σ) x τ' n' d) : CR P E m c τ n σ x τ' n' (d ++ [(j, some (Go.Proofs.YtdiofapingdlmaaV.shr ob k))]) := by
  refine ⟨⟨h.keys.1, fun i hi => ?_⟩, fun N w0 σ2 ι w a Q hs hR hT hm hdf hf hQ => ?_⟩
  · rw [keys_append, List.mem_append] at hi
    by_cases he : i = j
    · subst he; left; rw [hj]; rfl
    · rcases hi with hi | hi
      · have := h.keys.2 i hi
        rw [show app [(j, some (Go.Proofs.YtdiofapingdlmaaV.shr ob k))] σ i = σ i by simp [app, he]] at this
        exact this
      · simp [Go.Proofs.YtdiofapingdlmaaV.keys] at hi; exact absurd hi he
  · refine h.run N w0 (app [(j, some (Go.Proofs.YtdiofapingdlmaaV.shr ob k))] σ2) ι w a Q (hs.app _) (hR.shr (hs j ob hj) k) hT hm hdf hf fun κ w' a' hend => hQ κ w' a' ⟨hend.1, hend.2.1, ?_⟩
    rw [app_append]
    exact hend.2.2
theorem RA.shr {P : Program} {E : Env} {b : Nat} {σ : Store} {m : Nat} {c : Code} {τ : Tm} {n : Nat} {D : Delta} {Q : Post} {j : Nat} {ob ob' : AObj} (hj : app D σ j = some ob) (k : Nat) (ho : Go.Proofs.YtdiofapingdlmaaV.shr ob k = ob') (h : RA P E b σ m c τ n ((j, some ob') :: D) Q) : RA P E b σ m c τ n D Q := by
  subst ho
  obtain ⟨x, τ', n', e, D', h1, h2, h3⟩ := h
  refine ⟨x, τ', n', e ++ [(j, some (Go.Proofs.YtdiofapingdlmaaV.shr ob k))], D', h1.shr hj k, ?_, h3⟩
  rw [List.append_assoc]
  exact h2
theorem CQ.shr {P : Program} {D : Den} {f : Nat} {args : List Value} {n : Nat} {σ : Store} {Q R : Value → Nat → Delta → Prop} (h : CQ P D f args n σ Q) (hQ : ∀ v n' d, Q v n' d → ∃ j ob k, app d σ j = some ob ∧ R v n' ((j, some (Go.Proofs.YtdiofapingdlmaaV.shr ob k)) :: d)) : CQ P D f args n σ R := by
  obtain ⟨v, n', d, h1, h2⟩ := h
  obtain ⟨j, ob, k, h3, h4⟩ := hQ v n' d h2
  exact ⟨v, n', _, h1.shr h3 k, h4⟩
/-! what calls write, told otherwise -/
theorem SC.less {P : Program} {D : Den} {f : Nat} {args : List Value} {n n' : Nat} {σ : Store} {v : Value} {d0 d : Delta} (h : SC P D f args n σ v n' d0) (hl : Less n n' d0 d) : SC P D f args n σ v n' d :=
  ⟨h.1, hl.keysOk h.2.1, fun N w0 σ2 ι w args' R hs hR hargs hf hK => h.2.2 N w0 σ2 ι w args' R hs hR hargs hf fun κ w' v' hend hv => hK κ w' v' ⟨hend.1, hend.2.1, hl.rel (fun i h1 h2 => by
      cases ho : σ2 i with
      | none => rfl
      | some o =>
        obtain ⟨p, hp, _⟩ := hR.obj i o ho
        rw [hf i h1 h2] at hp; cases hp) hend.2.2⟩ hv⟩
theorem CQ.less {P : Program} {D : Den} {f : Nat} {args : List Value} {n : Nat} {σ : Store} {Q R : Value → Nat → Delta → Prop} (h : CQ P D f args n σ Q) (hQ : ∀ v n' d, Q v n' d → ∃ d', Less n n' d d' ∧ R v n' d') : CQ P D f args n σ R := by
  obtain ⟨v, n', d, h1, h2⟩ := h
  obtain ⟨d', h3, h4⟩ := hQ v n' d h2
  exact ⟨v, n', d', h1.less h3, h4⟩
/-! records -/
section
variable {α : Type} {c : α → List Value} {d0 : α}
theorem mp_get {l : List α} {j : Nat} (h : j < l.length) : (l.map c)[j]? = some (c (l.getD j d0)) := by
  rw [List.getElem?_map, List.getD_eq_getElem?_getD, List.getElem?_eq_getElem h]; rfl
end
section
variable {E : Env} [hP : Plain E] {τ : Tm} {o : Oper} {n : Nat} {σ : Store} {t u : Nat} {x y a : Operand} {k k' : IntKind} {v : Value} {ti ei ui : TI}
variable {α : Type} {c : α → List Value} {d0 : α}
/-- A cell of an element that is read. -/
theorem r_loadF {l : List α} {i m j ty sz : Nat} {w : Bool} (d0 : α) (ho : o.op = .load t a) (ha : args1 τ a = some (.pointer (some ⟨i, m, some j⟩))) (ht : E.ty t = some ti) (hz : ti.size = 1) (hg : isAgg ti.d = false) (hσ : σ i = some ⟨l.map c, sz, ty, w⟩) (hm : m < l.length) (hv : (c (l.getD m d0))[j]? = some v) : (aop E τ o).run n σ = some (v, n, []) :=
  r_load1 ho ha ht hz hg hσ (mp_get hm) hv
end
/-! values that equal themselves -/
def selfFields (E : Env) (R : Nat → Value → Bool) (xs : List Value) : List Field → Bool
  | [] => true
  | f :: fs => if f.name ≠ "_" then
      match part E f.type xs f.offset with
      | some a => R f.type a && selfFields E R xs fs
      | none => false
    else selfFields E R xs fs
def selfElems (E : Env) (R : Nat → Value → Bool) (elem n : Nat) (xs : List Value) (i : Nat) : Nat → Bool
  | 0 => true
  | m + 1 => match part E elem xs (i * n) with
    | some a => R elem a && selfElems E R elem n xs (i + 1) m
    | none => false
def selfEq (E : Env) : Nat → Nat → Value → Bool
  | 0, _, _ => false
  | d + 1, t, x =>
    match E.ty t with
    | none => false
    | some i => match i.d, x with
      | .bool, .bool _ => true
      | .int _, .int _ _ => true
      | .string, .string _ => true
      | .struct fields, .agg xs => i.eqok && selfFields E (selfEq E d) xs.toList fields.toList
      | .array len elem, .agg xs => match E.ty elem with
        | some j => selfElems E (selfEq E d) elem j.size xs.toList 0 len
        | none => false
      | _, _ => false
theorem str_self (s : ByteArray) : (s == s) = true := by
  first | exact beq_self_eq_true s | (show (s.data == s.data) = true; exact beq_self_eq_true _) | simp
theorem fieldsEq_self {E : Env} {R : Nat → Value → Value → Option Bool} {S : Nat → Value → Bool} (h : ∀ t x, S t x = true → R t x x = some true) {xs : List Value} : ∀ fs : List Field, selfFields E S xs fs = true → fieldsEq E R xs xs fs = some true
  | [], _ => rfl
  | f :: fs, hs => by
    unfold selfFields at hs
    unfold fieldsEq
    split
    · rename_i hn
      rw [if_pos hn] at hs
      cases hp : part E f.type xs f.offset with
      | none => rw [hp] at hs; cases hs
      | some a =>
        rw [hp] at hs
        simp only [Bool.and_eq_true] at hs
        simp only [h _ _ hs.1]
        exact fieldsEq_self h fs hs.2
    · rename_i hn
      rw [if_neg hn] at hs
      exact fieldsEq_self h fs hs
theorem elemsEq_self {E : Env} {R : Nat → Value → Value → Option Bool} {S : Nat → Value → Bool} (h : ∀ t x, S t x = true → R t x x = some true) {elem n : Nat} {xs : List Value} : ∀ (m i : Nat), selfElems E S elem n xs i m = true → elemsEq E R elem n xs xs i m = some true
  | 0, _, _ => rfl
  | m + 1, i, hs => by
    unfold selfElems at hs
    unfold elemsEq
    cases hp : part E elem xs (i * n) with
    | none => rw [hp] at hs; cases hs
    | some a =>
      rw [hp] at hs
      simp only [Bool.and_eq_true] at hs
      simp only [h _ _ hs.1]
      exact elemsEq_self h m (i + 1) hs.2
theorem aeq_self {E : Env} : ∀ (d t : Nat) (x : Value), selfEq E d t x = true → aeq E d t x x = some true
  | 0, _, _, h => by cases h
  | d + 1, t, x, h => by
    have ih := aeq_self (E := E) d
    unfold selfEq at h
    unfold aeq
    cases hE : E.ty t with
    | none => rw [hE] at h; cases h
    | some i =>
      rw [hE] at h
      simp only at h ⊢
      split at h
      · rename_i hd; simp only [hd]; rw [beq_self_eq_true]
      · rename_i hd; simp only [hd]; simp
      · rename_i hd; simp only [hd]; rw [str_self]
      · rename_i hd
        simp only [Bool.and_eq_true] at h
        simp only [hd, h.1, if_true]
        exact fieldsEq_self ih _ h.2
      · rename_i hd
        simp only [hd]
        split at h
        · rename_i he
          simp only [he]
          exact elemsEq_self ih _ _ h
        · cases h
      · cases h
section
variable {E : Env} [hP : Plain E] {τ : Tm} {o : Oper} {n : Nat} {σ : Store} {t u : Nat} {x y : Operand} {a b : Array Value} {r : Bool}
theorem r_eqlA (ho : o.op = .binOp .eql t x y u) (hx : args1 τ x = some (.agg a)) (hy : args1 τ y = some (.agg b)) (hg : guardOk E .eql t x y (.agg a) (.agg b) = true) (h : aeq E Op.maxDepth t (.agg a) (.agg b) = some r) : (aop E τ o).run n σ = some (.bool r, n, []) := by
  rw [aop_plain]
  unfold aop0
  simp only [ho, ev, hx, hy, hg, if_true, abin, coded, Bool.or_false, Bool.false_eq_true, if_false, abin0, h]
  rfl
end
/-! short words -/
theorem kb1 {n a0 : Nat} {x0 : Option AObj} (h : a0 < n) : ∀ i ∈ keys [(a0, x0)], i < n := by
  intro i hi; simp only [keys, List.map_cons, List.map_nil, List.mem_cons, List.not_mem_nil, or_false] at hi; omega
theorem kb2 {n a0 a1 : Nat} {x0 x1 : Option AObj} (h : a0 < n ∧ a1 < n) : ∀ i ∈ keys [(a0, x0), (a1, x1)], i < n := by
  intro i hi; simp only [keys, List.map_cons, List.map_nil, List.mem_cons, List.not_mem_nil, or_false] at hi; omega
theorem kb3 {n a0 a1 a2 : Nat} {x0 x1 x2 : Option AObj} (h : a0 < n ∧ a1 < n ∧ a2 < n) : ∀ i ∈ keys [(a0, x0), (a1, x1), (a2, x2)], i < n := by
  intro i hi; simp only [keys, List.map_cons, List.map_nil, List.mem_cons, List.not_mem_nil, or_false] at hi; omega
theorem kb4 {n a0 a1 a2 a3 : Nat} {x0 x1 x2 x3 : Option AObj} (h : a0 < n ∧ a1 < n ∧ a2 < n ∧ a3 < n) : ∀ i ∈ keys [(a0, x0), (a1, x1), (a2, x2), (a3, x3)], i < n := by
  intro i hi; simp only [keys, List.map_cons, List.map_nil, List.mem_cons, List.not_mem_nil, or_false] at hi; omega
theorem kb5 {n a0 a1 a2 a3 a4 : Nat} {x0 x1 x2 x3 x4 : Option AObj} (h : a0 < n ∧ a1 < n ∧ a2 < n ∧ a3 < n ∧ a4 < n) : ∀ i ∈ keys [(a0, x0), (a1, x1), (a2, x2), (a3, x3), (a4, x4)], i < n := by
  intro i hi; simp only [keys, List.map_cons, List.map_nil, List.mem_cons, List.not_mem_nil, or_false] at hi; omega
theorem kb6 {n a0 a1 a2 a3 a4 a5 : Nat} {x0 x1 x2 x3 x4 x5 : Option AObj} (h : a0 < n ∧ a1 < n ∧ a2 < n ∧ a3 < n ∧ a4 < n ∧ a5 < n) : ∀ i ∈ keys [(a0, x0), (a1, x1), (a2, x2), (a3, x3), (a4, x4), (a5, x5)], i < n := by
  intro i hi; simp only [keys, List.map_cons, List.map_nil, List.mem_cons, List.not_mem_nil, or_false] at hi; omega
theorem kb7 {n a0 a1 a2 a3 a4 a5 a6 : Nat} {x0 x1 x2 x3 x4 x5 x6 : Option AObj} (h : a0 < n ∧ a1 < n ∧ a2 < n ∧ a3 < n ∧ a4 < n ∧ a5 < n ∧ a6 < n) : ∀ i ∈ keys [(a0, x0), (a1, x1), (a2, x2), (a3, x3), (a4, x4), (a5, x5), (a6, x6)], i < n := by
  intro i hi; simp only [keys, List.map_cons, List.map_nil, List.mem_cons, List.not_mem_nil, or_false] at hi; omega
theorem kb8 {n a0 a1 a2 a3 a4 a5 a6 a7 : Nat} {x0 x1 x2 x3 x4 x5 x6 x7 : Option AObj} (h : a0 < n ∧ a1 < n ∧ a2 < n ∧ a3 < n ∧ a4 < n ∧ a5 < n ∧ a6 < n ∧ a7 < n) : ∀ i ∈ keys [(a0, x0), (a1, x1), (a2, x2), (a3, x3), (a4, x4), (a5, x5), (a6, x6), (a7, x7)], i < n := by
  intro i hi; simp only [keys, List.map_cons, List.map_nil, List.mem_cons, List.not_mem_nil, or_false] at hi; omega
def memP (a : Nat) : Delta → Prop
  | [] => False
  | (b, _) :: r => a = b ∨ memP a r
def goneP (n n' : Nat) (d : Delta) : Delta → Prop
  | [] => True
  | (a, _) :: r => (memP a d ∨ (n ≤ a ∧ a < n')) ∧ goneP n n' d r
theorem memP_mem {a : Nat} : ∀ {d : Delta}, memP a d → a ∈ keys d
  | [], h => h.elim
  | (b, _) :: r, h => by
    rcases h with rfl | h
    · exact List.mem_cons_self
    · exact List.mem_cons_of_mem _ (memP_mem h)
theorem gone_of {n n' : Nat} {d : Delta} : ∀ {d0 : Delta}, goneP n n' d d0 → ∀ x ∈ keys d0, x ∈ keys d ∨ (n ≤ x ∧ x < n')
  | [], _, x, hx => by simp [keys] at hx
  | (a, o) :: r, h, x, hx => by
    rw [show keys ((a, o) :: r) = a :: keys r from rfl, List.mem_cons] at hx
    rcases hx with rfl | hx
    · exact h.1.imp memP_mem id
    · exact gone_of h.2 x hx
theorem mm {nd D : Delta} {k : Nat} {o : Option AObj} (A : ∀ τ : Store, app nd τ k = o) (B : ∀ τ : Store, app D τ k = o) : k ∈ keys D ∧ ∀ τ : Store, app nd τ k = app D τ k := by
  refine ⟨?_, fun τ => (A τ).trans (B τ).symm⟩
  by_cases h : k ∈ keys D
  · exact h
  · have h1 := B noStore
    have h2 := B (fun _ => some default)
    rw [app_off h] at h1 h2
    rw [← h1] at h2
    cases h2
theorem fac {α : Type} {P : α → Prop} {a : α} {l : List α} (h : P a) (hl : ∀ p ∈ l, P p) : ∀ p ∈ a :: l, P p := by
  intro p hp
  rw [List.mem_cons] at hp
  rcases hp with rfl | hp
  · exact h
  · exact hl p hp
theorem fan {α : Type} {P : α → Prop} : ∀ p ∈ ([] : List α), P p := fun p hp => by cases hp
end Go.Proofs.YtdiofapingdlmaaV
/- The abstract machine: operations on slices of records. -/
set_option linter.unusedVariables false
set_option linter.unusedSimpArgs false
namespace Go.Proofs.YtdiofapingdlmaaV
open Go Go.RowKit
section
variable {E : Env} [hP : Plain E] {τ : Tm} {o : Oper} {n : Nat} {σ : Store} {t u : Nat} {x y a : Operand} {k k' : IntKind} {v : Value} {ti ei ui : TI}
variable {α : Type} {c : α → List Value} {d0 : α}
theorem r_cutG {lo hi : Option Operand} {vlo vhi : Option Value} {a b i off N elem q r : Nat} {ob : AObj} (ho : o.op = .slice t x lo hi none) (hx : args1 τ x = some (.slice (some ⟨i, off, none⟩) N 0)) (hlo : ∀ k, evO τ lo k = k vlo) (hhi : ∀ k, evO τ hi k = k vhi) (ht : E.ty t = some ti) (hd : ti.d = .slice elem) (he : E.ty elem = some ei) (h1 : bound vlo 0 = some a) (h2 : bound vhi N = some b) (hσ : σ i = some ob) (hs : ob.sz = ei.size) (h3 : a ≤ b) (h5 : (b ≤ N ∨ off + b ≤ ob.es.length) ∧ off + N ≤ ob.es.length) (hq : off + a = q) (hr : b - a = r) : (aop E τ o).run n σ = some (.slice (some ⟨i, q, none⟩) r 0, n, []) := by
  subst hq; subst hr
  rw [aop_plain]
  unfold aop0
  have hno : ∀ k, evO τ none k = k none := fun _ => rfl
  simp only [ho, ev, hx, hlo, hhi, hno]
  simp only [aslice2, ghostOk]
  unfold aslice
  simp only [ht, hd, h1, h2, he]
  rw [if_neg (by decide), if_neg (by simp)]
  refine run_get hσ ?_
  rw [if_neg (by
    simp only [Bool.or_eq_true, decide_eq_true_eq, Bool.not_eq_true', decide_eq_false_iff_not, not_or, Decidable.not_not, true_and]
    exact ⟨⟨⟨hs, h3⟩, fun q => h5.1.elim q.1 q.2⟩, h5.2⟩)]
  rfl
theorem seenG {m off K sz c' ty' : Nat} {w' : Bool} {l : List (List Value)} {F : List (List Value) → T} (hK : 0 < K) (hm : σ m = some ⟨l, sz, ty', w'⟩) (hl : off + K ≤ l.length) : (seen sz (.slice (some ⟨m, off, none⟩) K c') F).run n σ = (F ((l.drop off).take K)).run n σ := by
  simp only [seen, show K ≠ 0 by omega, if_false, T.run, hm]
  rw [if_pos (by refine ⟨trivial, ?_⟩; rw [List.length_take, List.length_drop]; omega)]
  try rfl
theorem seenZ {m off sz c' : Nat} {F : List (List Value) → T} : (seen sz (.slice (some ⟨m, off, none⟩) 0 c') F).run n σ = (F []).run n σ := by
  simp only [seen, if_true]
theorem r_append0R {cl : Call} {r : List Nat} {elem m c' ty' sz : Nat} {w' : Bool} {x : α} (ho : o.op = .call cl) (hc : cl.callee = .builtin .append) (hat : cl.argTypes.toList = t :: u :: r) (ha : evL τ cl.args.toList = some [.slice none 0 0, .slice (some ⟨m, 0, none⟩) 1 c']) (ht : E.ty t = some ti) (hu : E.ty u = some ui) (hd : ti.d = .slice elem) (hud : ui.d = .slice elem) (he : E.ty elem = some ei) (hsz : ei.size = sz) (hz : 0 < sz) (hm : σ m = some ⟨[c x], sz, ty', w'⟩) (hb : ei.bytes ≤ 65536) :
    (aop E τ o).run n σ = some (.slice (some ⟨n, 0, none⟩) 1 0, n + 1, [(n, some ⟨[x].map c, sz, elem, true⟩)]) := r_append0 ho hc hat ha ht hu hd hud he hsz hz hm hb
/-- .. of nothing. -/
theorem r_appendZ {cl : Call} {r : List Nat} {elem m off c' K : Nat} (ho : o.op = .call cl) (hc : cl.callee = .builtin .append) (hat : cl.argTypes.toList = t :: u :: r) (ha : evL τ cl.args.toList = some [v, .slice (some ⟨m, off, none⟩) K c']) (hv : (∃ j N c0, v = .slice (some ⟨j, 0, none⟩) N c0 ∧ c0 < 2) ∨ v = .slice none 0 0) (ht : E.ty t = some ti) (hu : E.ty u = some ui) (hd : ti.d = .slice elem) (hud : ui.d = .slice elem) (he : E.ty elem = some ei) (hz : 0 < ei.size) (hK : K = 0) :
    (aop E τ o).run n σ = some (v, n, []) := by
  subst hK
  rw [aop_plain]
  unfold aop0
  simp only [ho, hc, ha, hat, abuiltin, ht, hu, hd, hud, he]
  rw [if_neg (by omega), seenZ]
  unfold aappend
  rcases hv with ⟨j, N, c0, rfl, hc0⟩ | rfl
  · dsimp only
    rw [if_neg (by omega)]
    simp [T.run]
  · simp [T.run]
theorem ov_map {l m : List α} {j : Nat} : ov (l.map c) j (m.map c) = (l.take j ++ m ++ l.drop (j + m.length)).map c := by
  unfold ov
  rw [List.length_map, List.map_append, List.map_append, List.map_take, List.map_drop]
/-- .. within one row. -/
theorem r_appendIn {cl : Call} {r : List Nat} {elem j i off K M c' sz : Nat} {l l' : List α} (ho : o.op = .call cl) (hc : cl.callee = .builtin .append) (hat : cl.argTypes.toList = t :: u :: r) (ha : evL τ cl.args.toList = some [.slice (some ⟨j, 0, none⟩) i 0, .slice (some ⟨j, off, none⟩) K c']) (ht : E.ty t = some ti) (hu : E.ty u = some ui) (hd : ti.d = .slice elem) (hud : ui.d = .slice elem) (he : E.ty elem = some ei) (hsz : ei.size = sz) (hz : 0 < sz) (hj : σ j = some ⟨l.map c, sz, elem, true⟩) (hK : 0 < K) (h2 : off + K ≤ l.length) (h3 : i + K ≤ l.length) (hl : l.take i ++ (l.drop off).take K ++ l.drop (i + K) = l') (hs : i + K ≤ 1073741824) (hb : ei.bytes ≤ 65536) (hM : i + K = M) :
    (aop E τ o).run n σ = some (.slice (some ⟨j, 0, none⟩) M 0, n, [(j, some ⟨l'.map c, sz, elem, true⟩)]) := by
  rw [aop_plain]
  unfold aop0
  subst hM
  subst hl
  have hxl : (((l.map c).drop off).take K).length = K := by rw [List.length_take, List.length_drop, List.length_map]; omega
  have hx0 : (((l.map c).drop off).take K).isEmpty = false := by
    cases h : ((l.map c).drop off).take K with
    | nil => rw [h] at hxl; simp at hxl; omega
    | cons a b => rfl
  simp only [ho, hc, ha, hat, abuiltin, ht, hu, hd, hud, he, hsz]
  rw [if_neg (by omega), seenG hK hj (by rw [List.length_map]; exact h2)]
  unfold aappend
  dsimp only
  rw [if_neg (show ¬ (2 : Nat) ≤ 0 by decide)]
  simp only [hx0, Bool.false_eq_true, if_false, T.run, hj, hsz, List.drop_zero, hxl]
  have h1 : (decide (sz ≠ sz) || decide ((List.take i (l.map c)).length ≠ i) || decide ((elem : TK) ≠ (elem : TK)) || !small (i + K) ei.bytes || !decide (0 < sz)) = false := by
    simp [small, hs, hb, hz]
    omega
  rw [if_neg (by rw [h1]; simp), if_neg (by decide), if_neg (by simp), if_pos (by rw [List.length_map]; omega)]
  simp only [T.run]
  have e1 : ov (l.map c) (0 + i) (((l.map c).drop off).take K) = (l.take i ++ (l.drop off).take K ++ l.drop (i + K)).map c := by
    rw [Nat.zero_add, show ((l.map c).drop off).take K = ((l.drop off).take K).map c by rw [List.map_take, List.map_drop], ov_map]
    rw [show i + ((l.drop off).take K).length = i + K by rw [List.length_take, List.length_drop]; omega]
  rw [e1]
theorem r_clearR {cl : Call} {r : List Nat} {elem j off K c' sz : Nat} {l l' : List α} {z : α} (ho : o.op = .call cl) (hc : cl.callee = .builtin .clear) (hat : cl.argTypes.toList = t :: r) (ha : evL τ cl.args.toList = some [.slice (some ⟨j, off, none⟩) K c']) (ht : E.ty t = some ti) (hd : ti.d = .slice elem) (he : E.ty elem = some ei) (hsz : ei.size = sz) (hzero : cellsL ei.zero = c z) (hj : σ j = some ⟨l.map c, sz, elem, true⟩) (hK : 0 < K) (h2 : off + K ≤ l.length) (hl : l.take off ++ List.replicate K z ++ l.drop (off + K) = l') :
    (aop E τ o).run n σ = some (.tuple #[], n, [(j, some ⟨l'.map c, sz, elem, true⟩)]) := by
  rw [aop_plain]
  unfold aop0
  subst hl
  simp only [ho, hc, ha, hat, abuiltin, ht, hd, he]
  unfold aclear
  simp only [show K ≠ 0 by omega, if_false, T.run, hj, hsz, hzero]
  rw [if_neg (by simp [List.length_map]; omega)]
  simp only [T.run]
  have e1 : ov (l.map c) off (List.replicate K (c z)) = (l.take off ++ List.replicate K z ++ l.drop (off + K)).map c := by
    rw [show List.replicate K (c z) = (List.replicate K z).map c by rw [List.map_replicate], ov_map, List.length_replicate]
  rw [e1]
/-! slices that came in -/
inductive RowP (σ : Store) (e sz : Nat) : Value → List (List Value) → Prop
  | nil : RowP σ e sz (.slice none 0 0) []
  | zero : RowP σ e sz (.slice (some ⟨0, 0, none⟩) 0 1) []
  | obj {i : Nat} {es rest : List (List Value)} (h : σ i = some ⟨es ++ rest, sz, e, false⟩) : RowP σ e sz (.slice (some ⟨i, 0, none⟩) es.length 0) es
theorem RowAt.P {σ : Store} {e sz : Nat} {v : Value} {es : List (List Value)} (h : RowAt σ e sz v es) : RowP σ e sz v es := by
  cases h with
  | nil => exact .nil
  | zero => exact .zero
  | obj h => exact .obj (rest := []) (by rw [List.append_nil]; exact h)
theorem RowP.mono {σ σ' : Store} (hs : Sub σ σ') {e sz : Nat} {v : Value} {es : List (List Value)} : RowP σ e sz v es → RowP σ' e sz v es
  | .nil => .nil
  | .zero => .zero
  | .obj h => .obj (hs _ _ h)
def rk : Value → Nat
  | .slice (some ⟨i, _, _⟩) _ _ => i
  | _ => 0
def cutV (v : Value) (k : Nat) : Value := match v with
  | .slice none _ _ => .slice none 0 0
  | .slice (some a) _ c => .slice (some a) k c
  | v => v
theorem RowP.at {σ : Store} {e sz : Nat} {v : Value} {es : List (List Value)} (h : RowP σ e sz v es) (h0 : 0 < es.length) : v = .slice (some ⟨rk v, 0, none⟩) es.length 0 ∧ ∃ rest, σ (rk v) = some ⟨es ++ rest, sz, e, false⟩ := by
  cases h with
  | nil => simp at h0
  | zero => simp at h0
  | obj h => exact ⟨rfl, _, h⟩
theorem RowP.lt {n : Nat} {σ : Store} {e sz : Nat} {v : Value} {es : List (List Value)} (h : RowP σ e sz v es) (hd : Dom n σ) (h0 : 0 < n) : rk v < n := by
  cases h with
  | nil => exact h0
  | zero => exact h0
  | obj h => exact hd.lt h
theorem RowP.cut {σ : Store} {e sz : Nat} {v : Value} {es : List (List Value)} (h : RowP σ e sz v es) (k : Nat) (hk : k ≤ es.length) : RowP σ e sz (cutV v k) (es.take k) := by
  cases h with
  | nil => simp [cutV]; exact .nil
  | zero =>
    have : k = 0 := by simpa using hk
    subst this
    simp [cutV]; exact .zero
  | @obj i es rest h =>
    have h1 : (es.take k).length = k := by rw [List.length_take]; omega
    have h2 : RowP σ e sz (.slice (some ⟨i, 0, none⟩) (es.take k).length 0) (es.take k) := .obj (rest := es.drop k ++ rest) (by rw [← List.append_assoc, List.take_append_drop]; exact h)
    rw [h1] at h2
    exact h2
theorem RowP.get {σ : Store} {e sz m : Nat} {v : Value} {l : List α} (h : RowP σ e sz v (l.map c)) (hm : m < l.length) : ∃ rest, σ (rk v) = some ⟨l.map c ++ rest, sz, e, false⟩ := (h.at (by rw [List.length_map]; omega)).2
end
section
variable {E : Env} [hP : Plain E] {τ : Tm} {o : Oper} {n : Nat} {σ : Store} {t u : Nat} {x y a : Operand} {k k' : IntKind} {ti ei : TI} {v : Value}
theorem r_cut3 {lo hi mx : Operand} {k1 k2 k3 : IntKind} {a b m i off N elem q : Nat} (ho : o.op = .slice t x (some lo) (some hi) (some mx)) (hx : args1 τ x = some (.slice (some ⟨i, off, none⟩) N 0)) (hlo : args1 τ lo = some (.int k1 ((a : Nat) : Int))) (hhi : args1 τ hi = some (.int k2 ((b : Nat) : Int))) (hmx : args1 τ mx = some (.int k3 ((m : Nat) : Int))) (ht : E.ty t = some ti) (hd : ti.d = .slice elem) (he : E.ty elem = some ei) (h3 : a ≤ b ∧ b < m ∧ m ≤ N) (hq : b - a = q) : (aop E τ o).run n σ = some (.slice (some ⟨n, 0, none⟩) q 0, n + 1, []) := by
  subst hq
  rw [aop_plain]
  unfold aop0
  have h1 : bound (some (.int k1 ((a : Nat) : Int))) 0 = some a := bound_nat
  have h2 : bound (some (.int k2 ((b : Nat) : Int))) N = some b := bound_nat
  simp only [ho, ev, evO, hx, hlo, hhi, hmx]
  unfold aslice2 ghostOk
  simp only [ht, hd, h1, h2, he, Option.isSome_some, Bool.and_true]
  rw [if_pos (by simp; omega)]
  rfl
end
theorem del_last {α : Type} {l : List α} {z : α} {i N : Nat} (hl : l.length = N) (hN : i + 1 = N) : (l.take i ++ List.replicate 1 z ++ l.drop (i + 1)).take (N - 1) = l.eraseIdx i := by
  subst hN
  rw [List.eraseIdx_eq_take_drop_succ, List.drop_of_length_le (Nat.le_of_eq hl), List.append_nil, List.append_nil, Nat.add_sub_cancel, List.take_append_of_le_length (by rw [List.length_take]; omega), List.take_take, Nat.min_self]
theorem del_mid {α : Type} {l : List α} {z : α} {i N K M : Nat} (hl : l.length = N) (hi : i + 1 < N) (hK : K = N - (i + 1)) (hM : M = N - 1) : ((l.take i ++ (l.drop (i + 1)).take K ++ l.drop (i + K)).take M ++ List.replicate 1 z ++ (l.take i ++ (l.drop (i + 1)).take K ++ l.drop (i + K)).drop (M + 1)).take (N - 1) = l.eraseIdx i := by
  subst hK; subst hM
  have h1 : (l.drop (i + 1)).take (N - (i + 1)) = l.drop (i + 1) := List.take_of_length_le (by rw [List.length_drop]; omega)
  have h2 : (l.take i ++ l.drop (i + 1)).length = N - 1 := by rw [List.length_append, List.length_take, List.length_drop]; omega
  have h3 : ∀ x : List α, (l.take i ++ l.drop (i + 1) ++ x).take (N - 1) = l.take i ++ l.drop (i + 1) := fun x => by
    rw [List.take_append_of_le_length (by omega), List.take_of_length_le (by omega)]
  rw [h1, h3, List.append_assoc, h3, List.eraseIdx_eq_take_drop_succ]
section
variable {E : Env} [hP : Plain E] {τ : Tm} {o : Oper} {n : Nat} {σ : Store} {t u : Nat} {x y a : Operand} {k k' : IntKind} {ti ei : TI} {v : Value}
theorem r_cut3e {lo hi mx : Operand} {k1 k2 k3 : IntKind} {a b m i off N elem q r : Nat} {ob : AObj} (ho : o.op = .slice t x (some lo) (some hi) (some mx)) (hx : args1 τ x = some (.slice (some ⟨i, off, none⟩) N 0)) (hlo : args1 τ lo = some (.int k1 ((a : Nat) : Int))) (hhi : args1 τ hi = some (.int k2 ((b : Nat) : Int))) (hmx : args1 τ mx = some (.int k3 ((m : Nat) : Int))) (ht : E.ty t = some ti) (hd : ti.d = .slice elem) (he : E.ty elem = some ei) (hσ : σ i = some ob) (hs : ob.sz = ei.size) (h3 : a ≤ b ∧ b = m ∧ m ≤ N) (h4 : off + N ≤ ob.es.length) (hq : b - a = q) (hr : off + a = r) : (aop E τ o).run n σ = some (.slice (some ⟨i, r, none⟩) q 1, n, []) := by
  subst hq; subst hr
  rw [aop_plain]
  unfold aop0
  have h1 : bound (some (.int k1 ((a : Nat) : Int))) 0 = some a := bound_nat
  have h2 : bound (some (.int k2 ((b : Nat) : Int))) N = some b := bound_nat
  simp only [ho, ev, evO, hx, hlo, hhi, hmx]
  unfold aslice2 ghostOk
  simp only [ht, hd, h1, h2, he, Option.isSome_some, Bool.and_true]
  rw [if_neg (by simp; omega)]
  simp only
  unfold aslice
  simp only [ht, hd, h1, h2, he]
  rw [if_neg (show ¬ (2 : Nat) ≤ 0 by decide), if_neg (by simp)]
  refine run_get hσ ?_
  rw [if_neg (by simp [hs]; omega)]
  simp only [Option.isSome_some, Bool.and_true, decide_eq_true_eq]
  rw [if_pos (by omega)]
  rfl
end
theorem bound_int {k : IntKind} {z : Int} {a d : Nat} (h : z = ((a : Nat) : Int)) : bound (some (.int k z)) d = some a := by subst h; exact bound_nat
theorem gt2 {σ : Store} {j a0 a1 : Nat} {x0 x1 : Option AObj} {d : Delta} {r : Option AObj} (hn : j ≠ a0 ∧ j ≠ a1) (h : app d σ j = r) : app ((a0, x0) :: (a1, x1) :: d) σ j = r := by
  obtain ⟨h0, h1⟩ := hn
  simp only [app, if_neg h0, if_neg h1]
  exact h
theorem gt3 {σ : Store} {j a0 a1 a2 : Nat} {x0 x1 x2 : Option AObj} {d : Delta} {r : Option AObj} (hn : j ≠ a0 ∧ j ≠ a1 ∧ j ≠ a2) (h : app d σ j = r) : app ((a0, x0) :: (a1, x1) :: (a2, x2) :: d) σ j = r := by
  obtain ⟨h0, h1, h2⟩ := hn
  simp only [app, if_neg h0, if_neg h1, if_neg h2]
  exact h
theorem gt4 {σ : Store} {j a0 a1 a2 a3 : Nat} {x0 x1 x2 x3 : Option AObj} {d : Delta} {r : Option AObj} (hn : j ≠ a0 ∧ j ≠ a1 ∧ j ≠ a2 ∧ j ≠ a3) (h : app d σ j = r) : app ((a0, x0) :: (a1, x1) :: (a2, x2) :: (a3, x3) :: d) σ j = r := by
  obtain ⟨h0, h1, h2, h3⟩ := hn
  simp only [app, if_neg h0, if_neg h1, if_neg h2, if_neg h3]
  exact h
theorem gt5 {σ : Store} {j a0 a1 a2 a3 a4 : Nat} {x0 x1 x2 x3 x4 : Option AObj} {d : Delta} {r : Option AObj} (hn : j ≠ a0 ∧ j ≠ a1 ∧ j ≠ a2 ∧ j ≠ a3 ∧ j ≠ a4) (h : app d σ j = r) : app ((a0, x0) :: (a1, x1) :: (a2, x2) :: (a3, x3) :: (a4, x4) :: d) σ j = r := by
  obtain ⟨h0, h1, h2, h3, h4⟩ := hn
  simp only [app, if_neg h0, if_neg h1, if_neg h2, if_neg h3, if_neg h4]
  exact h
theorem gt6 {σ : Store} {j a0 a1 a2 a3 a4 a5 : Nat} {x0 x1 x2 x3 x4 x5 : Option AObj} {d : Delta} {r : Option AObj} (hn : j ≠ a0 ∧ j ≠ a1 ∧ j ≠ a2 ∧ j ≠ a3 ∧ j ≠ a4 ∧ j ≠ a5) (h : app d σ j = r) : app ((a0, x0) :: (a1, x1) :: (a2, x2) :: (a3, x3) :: (a4, x4) :: (a5, x5) :: d) σ j = r := by
  obtain ⟨h0, h1, h2, h3, h4, h5⟩ := hn
  simp only [app, if_neg h0, if_neg h1, if_neg h2, if_neg h3, if_neg h4, if_neg h5]
  exact h
theorem gt7 {σ : Store} {j a0 a1 a2 a3 a4 a5 a6 : Nat} {x0 x1 x2 x3 x4 x5 x6 : Option AObj} {d : Delta} {r : Option AObj} (hn : j ≠ a0 ∧ j ≠ a1 ∧ j ≠ a2 ∧ j ≠ a3 ∧ j ≠ a4 ∧ j ≠ a5 ∧ j ≠ a6) (h : app d σ j = r) : app ((a0, x0) :: (a1, x1) :: (a2, x2) :: (a3, x3) :: (a4, x4) :: (a5, x5) :: (a6, x6) :: d) σ j = r := by
  obtain ⟨h0, h1, h2, h3, h4, h5, h6⟩ := hn
  simp only [app, if_neg h0, if_neg h1, if_neg h2, if_neg h3, if_neg h4, if_neg h5, if_neg h6]
  exact h
theorem gt8 {σ : Store} {j a0 a1 a2 a3 a4 a5 a6 a7 : Nat} {x0 x1 x2 x3 x4 x5 x6 x7 : Option AObj} {d : Delta} {r : Option AObj} (hn : j ≠ a0 ∧ j ≠ a1 ∧ j ≠ a2 ∧ j ≠ a3 ∧ j ≠ a4 ∧ j ≠ a5 ∧ j ≠ a6 ∧ j ≠ a7) (h : app d σ j = r) : app ((a0, x0) :: (a1, x1) :: (a2, x2) :: (a3, x3) :: (a4, x4) :: (a5, x5) :: (a6, x6) :: (a7, x7) :: d) σ j = r := by
  obtain ⟨h0, h1, h2, h3, h4, h5, h6, h7⟩ := hn
  simp only [app, if_neg h0, if_neg h1, if_neg h2, if_neg h3, if_neg h4, if_neg h5, if_neg h6, if_neg h7]
  exact h
theorem gt9 {σ : Store} {j a0 a1 a2 a3 a4 a5 a6 a7 a8 : Nat} {x0 x1 x2 x3 x4 x5 x6 x7 x8 : Option AObj} {d : Delta} {r : Option AObj} (hn : j ≠ a0 ∧ j ≠ a1 ∧ j ≠ a2 ∧ j ≠ a3 ∧ j ≠ a4 ∧ j ≠ a5 ∧ j ≠ a6 ∧ j ≠ a7 ∧ j ≠ a8) (h : app d σ j = r) : app ((a0, x0) :: (a1, x1) :: (a2, x2) :: (a3, x3) :: (a4, x4) :: (a5, x5) :: (a6, x6) :: (a7, x7) :: (a8, x8) :: d) σ j = r := by
  obtain ⟨h0, h1, h2, h3, h4, h5, h6, h7, h8⟩ := hn
  simp only [app, if_neg h0, if_neg h1, if_neg h2, if_neg h3, if_neg h4, if_neg h5, if_neg h6, if_neg h7, if_neg h8]
  exact h
theorem RA.condT {P : Program} {E : Env} {b : Nat} {σ : Store} {m : Nat} {τ : Tm} {n : Nat} {D : Delta} {Q : Post} {c c' : Code} {o : Operand} (hc : args1 τ o = some (.bool true)) (h : RA P E b σ m c τ n D Q) : RA P E b σ m (.cond o c c') τ n D Q := RA.cond hc (fun _ => h) (fun h => by cases h)
theorem RA.condF {P : Program} {E : Env} {b : Nat} {σ : Store} {m : Nat} {τ : Tm} {n : Nat} {D : Delta} {Q : Post} {c c' : Code} {o : Operand} (hc : args1 τ o = some (.bool false)) (h : RA P E b σ m c' τ n D Q) : RA P E b σ m (.cond o c c') τ n D Q := RA.cond hc (fun h => by cases h) (fun _ => h)
theorem OA.p {P : Program} {E : Env} {σ : Store} {m : Nat} {τ : Tm} {n : Nat} {D : Delta} {ops : Array Oper} {o : Oper} {r : List Oper} {K : Tm → Nat → Delta → Prop} (dst : Option Nat) (v : Value) (hw : wantA ops τ o = true) (hd : dstOk m o = true) (hdst : o.dst = dst) (hs : (aop E τ o).run n (app D σ) = some (v, n, [])) (h : OA P E m ops σ r (upd τ dst v) n D K) : OA P E m ops σ (o :: r) τ n D K := OA.pure hw hd hdst hs h
theorem kp1 {P : Nat → Prop} {a0 : Nat} {x0 : Option AObj} (h0 : P a0) : ∀ x ∈ keys [(a0, x0)], P x := by
  intro x hx
  simp only [keys, List.map_cons, List.map_nil, List.mem_cons, List.not_mem_nil, or_false] at hx
  subst hx; exact h0
theorem dT {p : Prop} [Decidable p] {n : Nat} (h : p) : some (Value.bool (decide p), n, ([] : Delta)) = some (.bool true, n, []) := by rw [decide_eq_true h]
theorem dF {p : Prop} [Decidable p] {n : Nat} (h : ¬ p) : some (Value.bool (decide p), n, ([] : Delta)) = some (.bool false, n, []) := by rw [decide_eq_false h]
theorem RowP.one {σ : Store} {e sz : Nat} {v : Value} {es : List (List Value)} (h : RowP σ e sz v es) : oneB v = true := by cases h <;> rfl
theorem RowP.cells {σ : Store} {e sz : Nat} {v : Value} {es : List (List Value)} (h : RowP σ e sz v es) : cellsL v = [v] := by cases h <;> rfl
def only (k : Nat) (σ : Store) : Store := fun i => if i = k then σ i else none
end Go.Proofs.YtdiofapingdlmaaV
