/- The abstract machine: append, copy, clear, conversions of strings. -/
import Derived.Test.YtgajcmanompmcaaVmJ
set_option linter.unusedVariables false
set_option linter.unusedSimpArgs false
namespace Go.Proofs.YtgajcmanompmcaaV
open Go.RowKit

theorem grow_le (newLen : Nat) : ∀ (r c : Nat), Builtin.growBy newLen r c ≤ max c (2 * newLen + 192)
  | 0, c => by unfold Builtin.growBy; omega
  | r + 1, c => by
    unfold Builtin.growBy
    split
    · omega
    · rename_i h
      have := grow_le newLen r (c + (c + 768) / 4)
      omega
theorem nextcap_le {need cap : Nat} (h : cap < need) : Builtin.nextslicecap need cap ≤ 2 * need + 192 := by
  unfold Builtin.nextslicecap
  split
  · omega
  · split
    · omega
    · have := grow_le need 4 cap
      omega
theorem cut_ge (need old : Nat) (e : TypeId) (t : Nat) : need ≤ (Question.appendCap need old e).cut t := by
  simp only [Question.cut]; omega

theorem holds_flat {ι : Inj} {sz : Nat} {es : List (List Value)} {cs rest : List Value} (hlen : ∀ e ∈ es, e.length = sz) (hone : ∀ e ∈ es, e.all oneB = true) (h : VRs ι es.flatten cs) : Holds ι sz es (cs ++ rest) 0 := by
  intro k e he j v hv
  have hm := List.mem_of_getElem? he
  have hj : j < sz := by rw [← hlen e hm]; exact (List.getElem?_eq_some_iff.1 hv).1
  have hf := flat_get hlen k e j he hj
  rw [hv] at hf
  obtain ⟨v', g1, g2⟩ := h.get _ _ hf
  refine ⟨v', ?_, g2, List.all_eq_true.1 (hone e hm) v (List.mem_of_getElem? hv)⟩
  rw [Nat.zero_add, List.getElem?_append_left (List.getElem?_eq_some_iff.1 g1).1, g1]

/-- A segment of elements written into a row. -/
theorem Holds.seg {ι : Inj} {sz : Nat} {es xs : List (List Value)} {arr c' : List Value} {off o : Nat} (h : Holds ι sz es arr off) (hlen : ∀ (k : Nat) (e : List Value), es[k]? = some e → e.length = sz) (hxl : ∀ e ∈ xs, e.length = sz) (hone : ∀ e ∈ xs, e.all oneB = true) (hc : VRs ι xs.flatten c')
    (ho : o + xs.length ≤ es.length) (hroom : off + es.length * sz ≤ arr.length) : Holds ι sz (ov es o xs) (ov arr (off + o * sz) c') off := by
  have hcl : c'.length = xs.length * sz := by rw [← hc.length, flat_length hxl]
  have hos : (o + xs.length) * sz ≤ es.length * sz := Nat.mul_le_mul_right _ ho
  rw [Nat.add_mul] at hos
  intro k e he j v hv
  rw [ov_get (by omega)]
  rw [ov_get ho] at he
  split at he
  · rename_i hk
    have hj : j < sz := by rw [← hlen k e he]; exact (List.getElem?_eq_some_iff.1 hv).1
    have := mul_step hk hj
    rw [if_pos (by omega)]
    exact h k e he j v hv
  · rename_i hk
    split at he
    · rename_i hk2
      have hm := List.mem_of_getElem? he
      have hj : j < sz := by rw [← hxl e hm]; exact (List.getElem?_eq_some_iff.1 hv).1
      have h1 : o * sz ≤ k * sz := Nat.mul_le_mul_right _ (by omega)
      have h2 : k * sz + j < (o + xs.length) * sz := mul_step hk2 hj
      rw [Nat.add_mul] at h2
      rw [if_neg (by omega), if_pos (by omega)]
      have hf := flat_get hxl (k - o) e j he hj
      rw [hv] at hf
      obtain ⟨v', g1, g2⟩ := hc.get _ _ hf
      refine ⟨v', ?_, g2, List.all_eq_true.1 (hone e hm) v (List.mem_of_getElem? hv)⟩
      rw [← g1]
      congr 1
      rw [Nat.sub_mul]
      omega
    · rename_i hk2
      have hj : j < sz := by rw [← hlen k e he]; exact (List.getElem?_eq_some_iff.1 hv).1
      have h1 : (o + xs.length) * sz ≤ k * sz := Nat.mul_le_mul_right _ (by omega)
      rw [Nat.add_mul] at h1
      rw [if_neg (by omega), if_neg (by omega)]
      exact h k e he j v hv
theorem ov_len {sz o : Nat} {es xs : List (List Value)} (hlen : ∀ (k : Nat) (e : List Value), es[k]? = some e → e.length = sz) (hxl : ∀ e ∈ xs, e.length = sz) (ho : o + xs.length ≤ es.length) : ∀ (k : Nat) (e : List Value), (ov es o xs)[k]? = some e → e.length = sz := by
  intro k e he
  rw [ov_get ho] at he
  split at he
  · exact hlen k e he
  · split at he
    · exact hxl e (List.mem_of_getElem? he)
    · exact hlen k e he

section
variable {P : Program} {E : Env} {τ : Nat → Value} {a : Act} {ι : Inj} {σ : Store} {N n n' : Nat} {w0 w : World} {v : Value} {d : Delta}

/-- What comes of a value that an operation makes, in whatever memory. -/
def GoodV (D : Den) (N : Nat) (w0 : World) (ι : Inj) (σ : Store) (n n' : Nat) (v : Value) (d : Delta) (r : Result Value) : Prop :=
  ∃ w' v' κ, r = .ok v' w' ∧ ι.le κ ∧ (∀ i, κ i ≠ ι i → n ≤ i ∧ i < n') ∧ Rel D N w0 κ (app d σ) w' ∧ VR κ v v'
theorem GoodV.good {S : Sem Value} (h : GoodV E.den N w0 ι σ n n' v d (S.run P w)) : Good E.den N w0 ι σ n n' v d ((do pure (Next.value (← S)) : Sem Next).run P w) := by
  obtain ⟨w', v', κ, h1, h2⟩ := h
  refine ⟨.value v', w', v', κ, ?_, .inl rfl, h2⟩
  simp only [Sem.run_bind, h1, Result.andThen_ok, Sem.run_pure]
theorem goodV_same (hR : Rel E.den N w0 ι σ w) {v v' : Value} (hv : VR ι v v') : GoodV E.den N w0 ι σ n n v [] (.ok v' w) :=
  ⟨w, v', ι, rfl, Inj.le_refl _, fun i h => absurd rfl h, hR, hv⟩

/-- The segment of a row written in place. -/
theorem write_run (hR : Rel E.den N w0 ι σ w) {j : Nat} {ob : AObj} {p : Place} (hj : σ j = some ob) (hp : ι j = some p) (hO : ObjR N ι ob p w) (hw : ob.w = true) (hcp : 0 < p.cap) {o : Nat} {xs : List (List Value)} {cs : List Value} (hxl : ∀ e ∈ xs, e.length = ob.sz) (hone : ∀ e ∈ xs, e.all oneB = true) (hc : VRs ι xs.flatten cs) (ho : o + xs.length ≤ ob.es.length) :
    (storeCells ⟨p.b, p.off + o * p.sz, none⟩ cs).run P w = .ok () (w.setRow p.b ⟨ov ((match w.heap[p.b]? with | some (.cells arr _ _) => arr | _ => #[]).toList) (p.off + o * p.sz) cs⟩) ∧
    Rel E.den N w0 ι (app [(j, some { ob with es := ov ob.es o xs })] σ) (w.setRow p.b ⟨ov ((match w.heap[p.b]? with | some (.cells arr _ _) => arr | _ => #[]).toList) (p.off + o * p.sz) cs⟩) := by
  obtain ⟨hN, arr, fz, hb, hroom, hfz⟩ := hO.own hw hcp
  have hsz := hO.sz
  have hcl : cs.length = xs.length * ob.sz := by rw [← hc.length, flat_length hxl]
  have h1 : (o + xs.length) * ob.sz ≤ p.cap * ob.sz := Nat.mul_le_mul_right _ (by have := hO.cap; omega)
  rw [Nat.add_mul] at h1
  rw [hsz] at hroom
  have h2 : ob.es.length * ob.sz ≤ p.cap * ob.sz := Nat.mul_le_mul_right _ hO.cap
  have hone' : ∀ v ∈ cs, oneB v = true := by
    intro v hv
    obtain ⟨m, hm⟩ := List.getElem?_of_mem hv
    obtain ⟨v0, e0, hv0⟩ := hc.get' m v hm
    rw [hv0.oneB]
    have := List.mem_of_getElem? e0
    rw [List.mem_flatten] at this
    obtain ⟨e, he, hve⟩ := this
    exact List.all_eq_true.1 (hone e he) v0 hve
  have ha : arr.toList.length = arr.size := Array.length_toList
  rw [hb]
  refine ⟨storeCells_run P p.b ob.t fz (p.off + o * p.sz) cs 0 arr w hb hfz.1 (by rw [hcl, hsz]; omega) hone', ?_⟩
  have hH : Holds ι p.sz ob.es arr.toList p.off := hO.holds hb
  refine good_put (o' := { ob with es := ov ob.es o xs }) hR hj hw hp hcp rfl rfl hw (ov_len hO.len hxl ho) (by show (ov ob.es o xs).length ≤ _; rw [ov_length ho]; exact hO.cap) hb (by rw [ov_length (e := arr.toList) (j := p.off + o * p.sz) (c := cs) (by rw [hcl, hsz, ha]; omega), ha]) ?_
  exact hH.seg (by rw [hsz]; exact hO.len) (by rw [hsz]; exact hxl) hone hc ho (by rw [hsz, ha]; omega)

theorem VRs.flatten_append {ι : Inj} {xs ys : List (List Value)} {cs ds : List Value} (h : VRs ι xs.flatten cs) (k : VRs ι ys.flatten ds) : VRs ι (xs ++ ys).flatten (cs ++ ds) := by
  rw [List.flatten_append]; exact h.append k

/-- An object's block goes to a new object, written in place. -/
theorem rel_regrow (hR : Rel E.den N w0 ι σ w) {j : Nat} {ob o' : AObj} {p p' : Place} (hj : σ j = some ob) (hw : ob.w = true) (hp : ι j = some p) (hcp : 0 < p.cap) (hfr : ι n = none) (hb' : p'.b = p.b) (ht : o'.t = ob.t) (hs2 : o'.sz = ob.sz) (hs : p'.sz = o'.sz) (hpos : 0 < o'.sz) (hw' : o'.w = true) (hcap : o'.es.length ≤ p'.cap) (hlen : ∀ (k : Nat) (e : List Value), o'.es[k]? = some e → e.length = o'.sz)
    {arr : Array Value} {fz : Nat × Nat} {arr' : List Value} (hblk : w.heap[p.b]? = some (.cells arr ob.t fz)) (hsz : arr'.length = arr.size) (hcell : Holds ι p'.sz o'.es arr' p'.off) (hroom : p'.off + p'.cap * p'.sz ≤ arr.size) :
    Rel E.den N w0 (ι.set n p') (app [(n, some o'), (j, none)] σ) (w.setRow p.b ⟨arr'⟩) := by
  have hle := Inj.set_le hfr p'
  obtain ⟨q, g1, g2, g3⟩ := hR.obj j ob hj
  rw [hp] at g1; cases g1
  obtain ⟨hN, arr1, fz1, hb1, hr1, hf1⟩ := g3.own hw hcp
  rw [hblk] at hb1; cases hb1
  have hnp : ∀ x : AObj, ¬ Ph x p := fun x g => by have := g.2; omega
  have hlt : p.b < w.heap.size := (Array.getElem?_eq_some_iff.1 hblk).1
  have hnew : (w.setRow p.b ⟨arr'⟩).heap[p.b]? = some (.cells ⟨arr'⟩ ob.t fz) := setRow_heap _ _ _ _ _ _ hblk
  have hnj : n ≠ j := fun e => by rw [e, hp] at hfr; cases hfr
  have hkeys : ∀ i o, app [(n, some o'), (j, none)] σ i = some o → (i = n ∧ o = o') ∨ (i ≠ n ∧ i ≠ j ∧ σ i = some o) := by
    intro i o e
    simp only [app] at e
    split at e
    · rename_i hi; cases e; exact .inl ⟨hi, rfl⟩
    · split at e
      · cases e
      · exact .inr ⟨‹_›, ‹_›, e⟩
  refine ⟨⟨hR.below.os, hR.below.tape, hR.below.output, by rw [setRow_size]; exact hR.below.size, fun k hk => ?_⟩, by rw [setRow_size]; exact hR.size, fun i o e => ?_, fun i k q q' r r' e1 e2 f1 f2 hik hwq => ?_, fun c v e => by obtain ⟨q, h1, h2⟩ := hR.den c v e; exact ⟨q, hle _ _ h1, h2⟩⟩
  · rw [setRow_other _ _ _ _ (by omega)]; exact hR.below.block k hk
  · rcases hkeys i o e with ⟨rfl, rfl⟩ | ⟨h1, h2, h3⟩
    · refine ⟨p', Inj.set_self _ _ _, .inr (by rw [setRow_size, hb']; exact hlt), hs, hpos, hcap, hlen, fun k e he jj v hv => ?_, fun _ => .inr ⟨by rw [hb']; exact hN, ⟨arr'⟩, fz, by rw [hb', ht]; exact hnew, by show _ ≤ arr'.length; omega, by rw [hs2]; show FzOk ob.sz arr'.length fz; rw [hsz]; exact hf1⟩⟩
      obtain ⟨v', f1, f2, f3⟩ := hcell k e he jj v hv
      refine ⟨v', ?_, f2.mono hle, f3⟩
      unfold World.cell?
      simp only [hb', hnew, Option.isSome_none, Bool.false_eq_true, if_false]
      simpa using f1
    · obtain ⟨r, f1, f2, f3⟩ := hR.obj i o h3
      refine ⟨r, hle _ _ f1, by rw [setRow_size]; exact f2, f3.keep hle ?_⟩
      rcases hR.sep j i ob o p r hj h3 hp f1 (fun x => h2 x.symm) hw with g | g | g
      · exact absurd g (hnp _)
      · exact .inl g
      · exact .inr (setRow_other _ _ _ _ fun e' => g e'.symm)
  · have at_old : ∀ {i : Nat} {r : Place}, i ≠ n → ι.set n p' i = some r → ι i = some r := fun hi h => by
      unfold Inj.set at h; rwa [if_neg hi] at h
    have at_new : ∀ {r : Place}, ι.set n p' n = some r → r = p' := fun h => by rw [Inj.set_self] at h; cases h; rfl
    rcases hkeys i q e1 with ⟨rfl, rfl⟩ | ⟨h1, h2, h3⟩ <;> rcases hkeys k q' e2 with ⟨rfl, rfl⟩ | ⟨k1, k2, k3⟩
    · exact absurd rfl hik
    · have := at_new f1
      subst this
      rw [hb']
      rcases hR.sep j k ob q' p r' hj k3 hp (at_old k1 f2) (fun x => k2 x.symm) hw with g | g | g
      · exact absurd g (hnp _)
      · exact .inr (.inl g)
      · exact .inr (.inr g)
    · have := at_new f2
      subst this
      rw [hb']
      rcases hR.sep j i ob q p r hj h3 hp (at_old h1 f1) (fun x => h2 x.symm) hw with g | g | g
      · exact absurd g (hnp _)
      · exact .inl g
      · exact .inr (.inr fun e' => g e'.symm)
    · exact hR.sep i k q q' r r' h3 k3 (at_old h1 f1) (at_old k1 f2) hik hwq

/-- A new object that lies nowhere yet. -/
theorem rel_ph {D : Den} (hR : Rel D N w0 ι σ w) (hn : ι n = none) {sz : Nat} (t : Nat) (hpos : 0 < sz) : Rel D N w0 (ι.set n ⟨0, 0, sz, 0, none⟩) (app [(n, some ⟨[], sz, t, true⟩)] σ) w := by
  have hle := Inj.set_le hn ⟨0, 0, sz, 0, none⟩
  have hold : ∀ {i : Nat} {r : Place}, i ≠ n → ι.set n ⟨0, 0, sz, 0, none⟩ i = some r → ι i = some r := fun hi h => by
    unfold Inj.set at h; rwa [if_neg hi] at h
  have hph : ∀ {q : AObj} {r : Place}, app [(n, some ⟨[], sz, t, true⟩)] σ n = some q → ι.set n ⟨0, 0, sz, 0, none⟩ n = some r → Ph q r := fun h1 h2 => by
    rw [Inj.set_self] at h2; cases h2
    simp only [app, if_true] at h1; cases h1
    exact ⟨rfl, rfl⟩
  refine ⟨hR.below, hR.size, fun i o e => ?_, fun i k q q' r r' e1 e2 f1 f2 hik hwq => ?_, fun c v e => by obtain ⟨q, h1, h2⟩ := hR.den c v e; exact ⟨q, hle _ _ h1, h2⟩⟩
  · by_cases hi : i = n
    · subst hi
      simp only [app, if_true] at e; cases e
      exact ⟨_, Inj.set_self _ _ _, .inl ⟨rfl, rfl⟩, rfl, hpos, Nat.zero_le _, fun k e he => by simp at he, fun k e he => by simp at he, fun _ => .inl ⟨rfl, rfl⟩⟩
    · simp only [app, if_neg hi] at e
      obtain ⟨r, f1, f2, f3⟩ := hR.obj i o e
      exact ⟨r, hle _ _ f1, f2, f3.keep hle (.inr rfl)⟩
  · by_cases hi : i = n
    · subst hi; exact .inl (hph e1 f1)
    · by_cases hk : k = n
      · subst hk; exact .inr (.inl (hph e2 f2))
      · simp only [app, if_neg hi] at e1
        simp only [app, if_neg hk] at e2
        exact hR.sep i k q q' r r' e1 e2 (hold hi f1) (hold hk f2) hik hwq
theorem VR_slice2 {ι : Inj} {i o n b q c : Nat} {p : Place} (h : ι i = some p) (hc : o + n ≤ p.cap) (hb : b = p.b) (hq : q = p.off + o * p.sz) (hcc : c = p.cap - o) : VR ι (.slice (some ⟨i, o, none⟩) n 2) (.slice (some ⟨b, q, none⟩) n c) := by
  subst hb hq hcc; exact .sliceM h hc
theorem VR_row2 (ι : Inj) (n : Nat) (p : Place) {len : Nat} (h : len ≤ p.cap) (h0 : p.off = 0) : VR (ι.set n p) (.slice (some ⟨n, 0, none⟩) len 2) (.slice (some ⟨p.b, 0, none⟩) len p.cap) :=
  VR_slice2 (Inj.set_self ι n p) (by omega) rfl (by rw [h0]; simp) (by simp)
/-- append to a slice that has nothing and no room. -/
theorem append_zero (hE : EnvOk P E) {d0 : Delta} (hR : Rel E.den N w0 ι (app d0 σ) w) (hfr : ι n = none) {elem ty : Nat} {ei : TI} {ats : Array TypeId} {args : Array Value} {s' : Value} {base : Option Addr} (hs' : s' = .slice base 0 0) (hpos : 0 < ei.size)
    {xs : List (List Value)} {cs : List Value} {m : Nat} (hm : xs.length = m) (hsm : small m ei.bytes = true) (hxl : ∀ e ∈ xs, e.length = ei.size) (hcs : VRs ι xs.flatten cs) (hone : ∀ e ∈ xs, e.all oneB = true)
    (head : ∀ (base : Option Addr) (sLen sCap : Nat), s' = .slice base sLen sCap → sLen + m ≤ sCap → (Builtin.append_ ats ty args).run P w = ((do
      if let some a := base then storeCells (a.add (sLen * ei.size)) cs
      pure (.slice base (sLen + m) sCap) : Sem Value)).run P w)
    (grow : ∀ (base : Option Addr) (sLen sCap : Nat) (oc : List Value), s' = .slice base sLen sCap → sCap < sLen + m → small (sLen + m) ei.bytes = true →
      (∀ w1 : World, (∀ b : Nat, w1.heap[b]? = w.heap[b]?) → (Builtin.firstCells ei.size sLen s').run P w1 = .ok ⟨oc⟩ w1) →
      ∃ newCap rest, sLen + m ≤ newCap ∧ rest = (newCap - (sLen + m)) * ei.size ∧ ∃ r : Array Value, r.size = rest ∧
      (Builtin.append_ ats ty args).run P w = .ok (.slice (some ⟨w.heap.size, 0, none⟩) (sLen + m) newCap) { w with heap := w.heap.push (.cells (⟨oc⟩ ++ ⟨cs⟩ ++ r) elem (0, 0)), drawn := w.drawn + 1 }) :
    GoodV E.den N w0 ι σ n (n + 1) (.slice (some ⟨n, 0, none⟩) xs.length 2) ((n, some ⟨xs, ei.size, elem, true⟩) :: d0) ((Builtin.append_ ats ty args).run P w) := by
  have hcl : cs.length = m * ei.size := by rw [← hcs.length, flat_length hxl, hm]
  by_cases hx0 : xs = []
  · subst hx0
    have hm0 : m = 0 := by simpa using hm.symm
    subst hm0
    have hcs0 : cs = [] := List.eq_nil_of_length_eq_zero (by rw [hcl]; simp)
    subst hcs0
    rw [head base 0 0 hs' (Nat.le_refl _)]
    refine ⟨w, .slice base 0 0, ι.set n ⟨0, 0, ei.size, 0, none⟩, ?_, Inj.set_le hfr _, fun i => Inj.set_only i, rel_ph hR hfr elem hpos, ?_⟩
    · cases base <;> simp only [Sem.run_bind, storeCells, Sem.run_pure, Result.andThen_ok, Nat.add_zero]
    · cases base with
      | none => exact .sliceMN
      | some a => exact .sliceMZ (Inj.set_self _ _ _) (Nat.le_refl _)
  · have hmpos : 0 < m := by rw [← hm]; exact List.length_pos_iff.2 hx0
    obtain ⟨newCap, rest, hnc, hrest, r, hr, hrun⟩ := grow base 0 0 [] hs' (by omega) (by rw [Nat.zero_add]; exact hsm) (fun w1 _ => by subst hs'; cases base <;> simp [Builtin.firstCells, loadCells, loadCellsFrom])
    rw [hrun]
    simp only [Nat.zero_add] at hnc hrest ⊢
    refine ⟨_, _, ι.set n ⟨w.heap.size, 0, ei.size, newCap, none⟩, rfl, Inj.set_le hfr _, fun i => Inj.set_only i, rel_new (o := ⟨xs, ei.size, elem, true⟩) (p := ⟨w.heap.size, 0, ei.size, newCap, none⟩) hR hfr rfl rfl hpos (by show xs.length ≤ newCap; omega) (fun k e hk => hxl e (List.mem_of_getElem? hk)) ?_ ?_ (FzOk.zero _ _) _, ?_⟩
    · have := holds_flat (rest := r.toList) hxl hone hcs
      simpa using this
    · simp [hr, hrest, hcl]
      rw [Nat.sub_mul, ← Nat.add_sub_assoc (Nat.mul_le_mul_right _ hnc), Nat.add_sub_cancel_left]
      exact Nat.le_refl _
    · rw [← hm] at hnc ⊢
      exact VR_row2 ι n ⟨w.heap.size, 0, ei.size, newCap, none⟩ (by show xs.length ≤ newCap; omega) rfl
theorem append_core23 (hE : EnvOk P E) (hR : Rel E.den N w0 ι σ w) (hn : ∀ i, n ≤ i → i < n' → ι i = none) {t u elem ty : Nat} {ti ui ei : TI} {ats : Array TypeId} {args : Array Value} {s' x' : Value} {j o len c : Nat} (ht : E.ty t = some ti) (hd : ti.d = .slice elem) (hu : E.ty u = some ui) (he : E.ty elem = some ei)
    (h0 : ats[0]? = some t) (h1 : ats[1]? = some u) (h2 : args[0]? = some s') (h3 : args[1]? = some x') (hs : VR ι (.slice (some ⟨j, o, none⟩) len c) s') {xs : List (List Value)} {cs : List Value} {m : Nat} (hm : xs.length = m) (hxl : ∀ e ∈ xs, e.length = ei.size) (hcs : VRs ι xs.flatten cs) (hone : ∀ e ∈ xs, e.all oneB = true)
    (head : ∀ (base : Option Addr) (sLen sCap : Nat), s' = .slice base sLen sCap → sLen + m ≤ sCap → (Builtin.append_ ats ty args).run P w = ((do
      if let some a := base then storeCells (a.add (sLen * ei.size)) cs
      pure (.slice base (sLen + m) sCap) : Sem Value)).run P w)
    (grow : ∀ (base : Option Addr) (sLen sCap : Nat) (oc : List Value), s' = .slice base sLen sCap → sCap < sLen + m → small (sLen + m) ei.bytes = true →
      (∀ w1 : World, (∀ b : Nat, w1.heap[b]? = w.heap[b]?) → (Builtin.firstCells ei.size sLen s').run P w1 = .ok ⟨oc⟩ w1) →
      ∃ newCap rest, sLen + m ≤ newCap ∧ rest = (newCap - (sLen + m)) * ei.size ∧ ∃ r : Array Value, r.size = rest ∧
      (Builtin.append_ ats ty args).run P w = .ok (.slice (some ⟨w.heap.size, 0, none⟩) (sLen + m) newCap) { w with heap := w.heap.push (.cells (⟨oc⟩ ++ ⟨cs⟩ ++ r) elem (0, 0)), drawn := w.drawn + 1 }) (h : (aappend23 elem ei j o len c xs).run n σ = some (v, n', d)) :
    GoodV E.den N w0 ι σ n n' v d ((Builtin.append_ ats ty args).run P w) := by
  have hcl : cs.length = m * ei.size := by rw [← hcs.length, flat_length hxl, hm]
  unfold aappend23 at h
  split at h
  · rename_i hc3
    subst hc3
    split at h
    · rename_i hc
      obtain ⟨rfl, hsm, hpos⟩ := hc
      obtain ⟨rfl, rfl, rfl⟩ := ret_run (fresh_run h)
      have hb : ∃ base, s' = .slice base 0 0 := by cases hs <;> exact ⟨_, rfl⟩
      obtain ⟨base, hb⟩ := hb
      exact append_zero hE (d0 := []) hR (hn _ (Nat.le_refl _) (by omega)) hb hpos hm (by rw [← hm]; exact hsm) hxl hcs hone head grow
    · exact (fail_run h).elim
  split at h
  · rename_i hc3 hc2
    subst hc2
    obtain ⟨ob, ho, h⟩ := get_run h
    obtain ⟨p, g1, g2, g3⟩ := hR.obj _ _ ho
    split at h
    · rename_i hc
      obtain ⟨q1', q2', q3', q4', q5', hw'⟩ := hc
      rw [hm] at q4'
      obtain ⟨rfl, rfl, rfl⟩ := ret_run (fresh_run h)
      have hfr := hn n (Nat.le_refl _) (by omega)
      have hless : ∀ i o', app [(j, none)] σ i = some o' → σ i = some o' := fun i o' e => by
        simp only [app] at e
        split at e
        · cases e
        · exact e
      have hR' : Rel E.den N w0 ι (app [(j, none)] σ) w := hR.less hless
      have zero : ∀ base, s' = .slice base 0 0 → len = 0 → GoodV E.den N w0 ι σ n (n + 1) (.slice (some ⟨n, 0, none⟩) ((ob.es.drop o).take len ++ xs).length 2) [(n, some ⟨(ob.es.drop o).take len ++ xs, ei.size, elem, true⟩), (j, none)] ((Builtin.append_ ats ty args).run P w) := fun base hb h0 => by
        subst h0
        rw [List.take_zero, List.nil_append]
        rw [Nat.zero_add] at q4'
        exact append_zero hE hR' hfr hb q5' hm q4' hxl hcs hone head grow
      obtain ⟨oc, hoc, hocc⟩ := row_of g3 o len
      have hpl : ∀ e ∈ (ob.es.drop o).take len, e.length = ei.size := fun e he => (elems_len g3 e he).trans q1'
      have hpone : ∀ e ∈ (ob.es.drop o).take len, e.all oneB = true := by
        intro e he
        have hm' : e ∈ ob.es := List.mem_of_mem_drop (List.mem_of_mem_take he)
        obtain ⟨k', hk'⟩ := List.getElem?_of_mem hm'
        rw [List.all_eq_true]
        intro y hy
        obtain ⟨j', hj⟩ := List.getElem?_of_mem hy
        obtain ⟨_, _, _, h3⟩ := g3.cell k' e hk' j' y hj
        exact h3
      have hocl : oc.length = len * ei.size := by rw [← hoc.length, flat_length hpl, q2']
      have hpre : ∀ e ∈ (ob.es.drop o).take len ++ xs, e.length = ei.size := fun e he => by
        rcases List.mem_append.1 he with h | h
        · exact hpl e h
        · exact hxl e h
      have hpreone : ∀ e ∈ (ob.es.drop o).take len ++ xs, e.all oneB = true := fun e he => by
        rcases List.mem_append.1 he with h | h
        · exact hpone e h
        · exact hone e h
      have hpc := VRs.flatten_append hoc hcs
      have hlenxs : ((ob.es.drop o).take len ++ xs).length = len + m := by rw [List.length_append, q2', hm]
      cases hs with
      | sliceMN => exact zero none rfl rfl
      | sliceMZ hp hz => exact zero _ rfl rfl
      | sliceM hp hcc' =>
        rw [g1] at hp; cases hp
        by_cases hz : p.cap - o = 0
        · exact zero _ (by rw [hz, show len = 0 by omega]) (by omega)
        obtain ⟨hN, arr, fz, hb, hroom2, hfz⟩ := g3.own hw' (by omega)
        have hsz := g3.sz
        by_cases hin : len + m ≤ p.cap - o
        · have hone' : ∀ v ∈ cs, oneB v = true := by
            intro v hv
            obtain ⟨m', hm'⟩ := List.getElem?_of_mem hv
            obtain ⟨v0, e0, hv0⟩ := hcs.get' m' v hm'
            rw [hv0.oneB]
            have := List.mem_of_getElem? e0
            rw [List.mem_flatten] at this
            obtain ⟨e, he, hve⟩ := this
            exact List.all_eq_true.1 (hone e he) v0 hve
          have hb1 : (o + (len + m)) * ei.size ≤ p.cap * ei.size := Nat.mul_le_mul_right _ (by omega)
          rw [Nat.add_mul, Nat.add_mul] at hb1
          have hb2 : (o + (p.cap - o)) * ei.size = p.cap * ei.size := by congr 1; omega
          rw [Nat.add_mul] at hb2
          rw [hsz, q1'] at hroom2
          have ha : arr.toList.length = arr.size := Array.length_toList
          have ea : p.off + o * p.sz + len * ei.size = p.off + o * ei.size + len * ei.size := by rw [hsz, q1']
          have est := storeCells_run P p.b ob.t fz (p.off + o * ei.size + len * ei.size) cs 0 arr w hb hfz.1 (by rw [hcl]; omega) hone'
          rw [head _ _ _ rfl hin]
          simp only [Sem.run_bind, addr_add, ea, est, Result.andThen_ok, Sem.run_pure, Nat.add_zero]
          refine ⟨_, _, ι.set n ⟨p.b, p.off + o * ei.size, ei.size, p.cap - o, none⟩, rfl, Inj.set_le hfr _, fun i => Inj.set_only i, ?_, ?_⟩
          · have hH : Holds ι ei.size ((ob.es.drop o).take len ++ xs) (ov arr.toList (p.off + o * ei.size + len * ei.size) cs) (p.off + o * ei.size) := by
              intro k e he j2 v hv
              have hmem := List.mem_of_getElem? he
              have hj2 : j2 < ei.size := by rw [← hpre e hmem]; exact (List.getElem?_eq_some_iff.1 hv).1
              rw [ov_get (by rw [hcl, ha]; omega)]
              by_cases hk : k < len
              · rw [List.getElem?_append_left (by rw [q2']; exact hk), List.getElem?_take, if_pos hk, List.getElem?_drop] at he
                have := mul_step hk hj2
                rw [if_pos (by omega)]
                obtain ⟨v', f1, f2, f3⟩ := g3.holds hb (o + k) e he j2 v hv
                refine ⟨v', ?_, f2, f3⟩
                rw [← f1, hsz, q1', Nat.add_mul, Nat.add_assoc p.off]
              · rw [List.getElem?_append_right (by rw [q2']; omega), q2'] at he
                have h1 : len * ei.size ≤ k * ei.size := Nat.mul_le_mul_right _ (by omega)
                have hkm : k - len < m := by rw [← hm]; exact (List.getElem?_eq_some_iff.1 he).1
                have h2 := mul_step (sz := ei.size) (show k - len < m from hkm) hj2
                rw [Nat.sub_mul] at h2
                rw [if_neg (by omega), if_pos (by rw [hcl]; omega)]
                have hf := flat_get hxl (k - len) e j2 he hj2
                rw [hv] at hf
                obtain ⟨v', f1, f2⟩ := hcs.get _ _ hf
                refine ⟨v', ?_, f2, List.all_eq_true.1 (hpreone e hmem) v (List.mem_of_getElem? hv)⟩
                rw [← f1]
                congr 1
                rw [Nat.sub_mul]
                omega
            exact rel_regrow hR ho hw' g1 (by omega) hfr (o' := ⟨(ob.es.drop o).take len ++ xs, ei.size, elem, true⟩) (p' := ⟨p.b, p.off + o * ei.size, ei.size, p.cap - o, none⟩) (arr' := ov arr.toList (p.off + o * ei.size + len * ei.size) cs) rfl q3'.symm q1'.symm rfl q5' rfl (by show _ ≤ p.cap - o; rw [hlenxs]; exact hin) (fun k e hk => hpre e (List.mem_of_getElem? hk)) hb (by rw [ov_length (e := arr.toList) (j := p.off + o * ei.size + len * ei.size) (c := cs) (by rw [hcl, ha]; omega), ha]) hH (by show p.off + o * ei.size + (p.cap - o) * ei.size ≤ arr.size; omega)
          · rw [hlenxs]
            exact VR_slice2 (ι := ι.set n ⟨p.b, p.off + o * ei.size, ei.size, p.cap - o, none⟩) (i := n) (o := 0) (Inj.set_self _ _ _) (by show 0 + (len + m) ≤ p.cap - o; omega) rfl (by rw [hsz, q1']; simp) (by simp)
        · have hold : ∀ w1 : World, (∀ b : Nat, w1.heap[b]? = w.heap[b]?) → (Builtin.firstCells ei.size len (.slice (some ⟨p.b, p.off + o * p.sz, none⟩) len (p.cap - o))).run P w1 = .ok ⟨oc⟩ w1 := by
            intro w1 hw1
            have := run_loadCells_list (P := P) w1 ⟨p.b, p.off + o * p.sz, none⟩ oc (fun jj vv hv => by
              have h1 := hocc jj vv hv
              rw [addr_add] at h1 ⊢
              rw [cell_block (hw1 p.b)]
              exact h1)
            rw [hocl] at this
            exact this
          obtain ⟨newCap, rest, hnc, hrest, r, hr, hrun⟩ := grow _ len _ oc rfl (by omega) q4' hold
          rw [hrun]
          refine ⟨_, _, ι.set n ⟨w.heap.size, 0, ei.size, newCap, none⟩, rfl, Inj.set_le hfr _, fun i => Inj.set_only i, ?_, ?_⟩
          · exact rel_new (o := ⟨(ob.es.drop o).take len ++ xs, ei.size, elem, true⟩) (p := ⟨w.heap.size, 0, ei.size, newCap, none⟩) (arr := ⟨oc⟩ ++ ⟨cs⟩ ++ r) (fz := (0, 0)) hR' hfr rfl rfl q5' (by show _ ≤ newCap; rw [hlenxs]; exact hnc) (fun k e hk => hpre e (List.mem_of_getElem? hk)) (by
              have := holds_flat (rest := r.toList) hpre hpreone hpc
              simpa using this) (by
              simp [hr, hrest, hcl, hocl]
              rw [Nat.sub_mul, ← Nat.add_mul, ← Nat.add_sub_assoc (Nat.mul_le_mul_right _ hnc), Nat.add_sub_cancel_left]
              exact Nat.le_refl _) (FzOk.zero _ _) (w.drawn + 1)
          · rw [hlenxs]
            exact VR_row2 ι n ⟨w.heap.size, 0, ei.size, newCap, none⟩ hnc rfl
    · exact (fail_run h).elim
  · exact (fail_run h).elim

theorem append_core (hE : EnvOk P E) (hR : Rel E.den N w0 ι σ w) (hn : ∀ i, n ≤ i → i < n' → ι i = none) {t u elem ty : Nat} {ti ui ei : TI} {ats : Array TypeId} {args : Array Value} {s s' x' : Value} (ht : E.ty t = some ti) (hd : ti.d = .slice elem) (hu : E.ty u = some ui) (he : E.ty elem = some ei)
    (h0 : ats[0]? = some t) (h1 : ats[1]? = some u) (h2 : args[0]? = some s') (h3 : args[1]? = some x') (hs : VR ι s s') {xs : List (List Value)} {cs : List Value} {m : Nat} (hm : xs.length = m) (hxl : ∀ e ∈ xs, e.length = ei.size) (hcs : VRs ι xs.flatten cs) (hone : ∀ e ∈ xs, e.all oneB = true)
    (head : ∀ (base : Option Addr) (sLen sCap : Nat), s' = .slice base sLen sCap → sLen + m ≤ sCap → (Builtin.append_ ats ty args).run P w = ((do
      if let some a := base then storeCells (a.add (sLen * ei.size)) cs
      pure (.slice base (sLen + m) sCap) : Sem Value)).run P w)
    (grow : ∀ (base : Option Addr) (sLen sCap : Nat) (oc : List Value), s' = .slice base sLen sCap → sCap < sLen + m → small (sLen + m) ei.bytes = true →
      (∀ w1 : World, (∀ b : Nat, w1.heap[b]? = w.heap[b]?) → (Builtin.firstCells ei.size sLen s').run P w1 = .ok ⟨oc⟩ w1) →
      ∃ newCap rest, sLen + m ≤ newCap ∧ rest = (newCap - (sLen + m)) * ei.size ∧ ∃ r : Array Value, r.size = rest ∧
      (Builtin.append_ ats ty args).run P w = .ok (.slice (some ⟨w.heap.size, 0, none⟩) (sLen + m) newCap) { w with heap := w.heap.push (.cells (⟨oc⟩ ++ ⟨cs⟩ ++ r) elem (0, 0)), drawn := w.drawn + 1 }) (h : (aappend elem ei s xs).run n σ = some (v, n', d)) :
    GoodV E.den N w0 ι σ n n' v d ((Builtin.append_ ats ty args).run P w) := by
  have hcl : cs.length = m * ei.size := by rw [← hcs.length, flat_length hxl, hm]
  unfold aappend at h
  split at h
  · -- nil
    cases hs
    split at h
    · rename_i hx0
      have hx0' : xs = [] := by simpa using hx0
      subst hx0'
      obtain ⟨rfl, rfl, rfl⟩ := ret_run h
      have hm0 : m = 0 := by simpa using hm.symm
      subst hm0
      rw [head none 0 0 rfl (Nat.le_refl _)]
      exact goodV_same hR .sliceNil
    · rename_i hx0
      split at h
      · rename_i hc
        simp only [Bool.and_eq_true, decide_eq_true_eq] at hc
        obtain ⟨rfl, rfl, rfl⟩ := ret_run (fresh_run h)
        have hmpos : 0 < m := by
          rw [← hm]; exact List.length_pos_iff.2 (by simpa using hx0)
        obtain ⟨newCap, rest, hnc, hrest, r, hr, hrun⟩ := grow none 0 0 [] rfl (by omega) (by rw [Nat.zero_add, ← hm]; exact hc.1) (fun w1 _ => by simp [Builtin.firstCells])
        rw [hrun]
        simp only [Nat.zero_add] at hnc hrest ⊢
        have hfr := hn _ (Nat.le_refl _) (by omega)
        refine ⟨_, _, ι.set n ⟨w.heap.size, 0, ei.size, newCap, none⟩, rfl, Inj.set_le hfr _, fun i => Inj.set_only i, rel_new (o := ⟨xs, ei.size, elem, true⟩) (p := ⟨w.heap.size, 0, ei.size, newCap, none⟩) hR hfr rfl rfl hc.2 (by show xs.length ≤ newCap; omega) (fun k e hk => hxl e (List.mem_of_getElem? hk)) ?_ ?_ (FzOk.zero _ _) _, ?_⟩
        · have := holds_flat (rest := r.toList) hxl hone hcs
          simpa using this
        · simp [hr, hrest, hcl]
          rw [Nat.sub_mul, ← Nat.add_sub_assoc (Nat.mul_le_mul_right _ hnc), Nat.add_sub_cancel_left]
          exact Nat.le_refl _
        · rw [← hm] at hnc ⊢
          exact VR_row ι n ⟨w.heap.size, 0, ei.size, newCap, none⟩ (by show xs.length ≤ newCap; omega) rfl
      · exact (fail_run h).elim
  · rename_i j o len c
    split at h
    · exact append_core23 hE hR hn ht hd hu he h0 h1 h2 h3 hs hm hxl hcs hone head grow h
    rename_i hc2
    have hS0 : ∀ ob, SR ι ob j o len c s' := fun ob => slice_cases hs
    split at h
    · rename_i hx0
      have hx0' : xs = [] := by simpa using hx0
      subst hx0'
      obtain ⟨rfl, rfl, rfl⟩ := ret_run h
      have hm0 : m = 0 := by simpa using hm.symm
      subst hm0
      have hcs0 : cs = [] := by
        have : cs.length = 0 := by rw [hcl]; simp
        exact List.eq_nil_of_length_eq_zero this
      subst hcs0
      have fin : ∀ (ad : Addr) (c' : Nat), s' = .slice (some ad) len c' → len ≤ c' → GoodV E.den N w0 ι σ n' n' (.slice (some ⟨j, o, none⟩) len c) [] ((Builtin.append_ ats ty args).run P w) := by
        intro ad c' hs' hle
        rw [head _ _ _ hs' (by omega)]
        simp only [Sem.run_bind, storeCells, Sem.run_pure, Result.andThen_ok, Nat.add_zero]
        rw [← hs']
        exact goodV_same hR hs
      cases hS0 default with
      | nil _ h23 => omega
      | at_ hp hc hcc e0 e1 => exact fin _ _ rfl (by omega)
      | zero e0 ez e1 => subst e0; exact fin _ _ rfl (Nat.le_refl _)
    · rename_i hx0
      have hmpos : 0 < m := by
        rw [← hm]; exact List.length_pos_iff.2 (by simpa using hx0)
      obtain ⟨ob, ho, hx⟩ := get_run h
      clear h
      have h := hx
      clear hx
      obtain ⟨p, g1, g2, g3⟩ := hR.obj _ _ ho
      split at h
      · exact (fail_run h).elim
      · rename_i hc
        simp only [Bool.or_eq_true, decide_eq_true_eq, not_or, Decidable.not_not, Bool.not_eq_true', Bool.not_eq_false] at hc
        obtain ⟨⟨⟨⟨q1, q2⟩, q3⟩, q4⟩, q5⟩ := hc
        have q1' : ob.sz = ei.size := by simpa using q1
        have q2' : ((ob.es.drop o).take len).length = len := by simpa using q2
        have q3' : ob.t = elem := by simpa using q3
        have q4' : small (len + m) ei.bytes = true := by rw [← hm]; simpa using q4
        have q5' : 0 < ei.size := by simpa using q5
        have hroom : o + len ≤ ob.es.length ∨ len = 0 := by
          simp at q2'; omega
        obtain ⟨oc, hoc, hocc⟩ := row_of g3 o len
        have hpl : ∀ e ∈ (ob.es.drop o).take len, e.length = ei.size := fun e he => (elems_len g3 e he).trans q1'
        have hpone : ∀ e ∈ (ob.es.drop o).take len, e.all oneB = true := by
          intro e he
          have hm' : e ∈ ob.es := List.mem_of_mem_drop (List.mem_of_mem_take he)
          obtain ⟨k', hk'⟩ := List.getElem?_of_mem hm'
          rw [List.all_eq_true]
          intro y hy
          obtain ⟨j', hj⟩ := List.getElem?_of_mem hy
          obtain ⟨_, _, _, h3⟩ := g3.cell k' e hk' j' y hj
          exact h3
        have hocl : oc.length = len * ei.size := by rw [← hoc.length, flat_length hpl, q2']
        have hpre : ∀ e ∈ (ob.es.drop o).take len ++ xs, e.length = ei.size := fun e he => by
          rcases List.mem_append.1 he with h | h
          · exact hpl e h
          · exact hxl e h
        have hpreone : ∀ e ∈ (ob.es.drop o).take len ++ xs, e.all oneB = true := fun e he => by
          rcases List.mem_append.1 he with h | h
          · exact hpone e h
          · exact hone e h
        have hpc := VRs.flatten_append hoc hcs
        -- the old cells
        have hold : ∀ w1 : World, (∀ b : Nat, w1.heap[b]? = w.heap[b]?) → (Builtin.firstCells ei.size len s').run P w1 = .ok ⟨oc⟩ w1 := by
          intro w1 hw1
          cases hS0 ob with
          | nil _ h23 => omega
          | at_ hp hcc' hcc e0 e1 =>
            rw [g1] at hp; cases hp
            have := run_loadCells_list (P := P) w1 ⟨p.b, p.off + o * p.sz, none⟩ oc (fun jj vv hv => by
              have h1 := hocc jj vv hv
              rw [addr_add] at h1 ⊢
              rw [cell_block (hw1 p.b)]
              exact h1)
            rw [hocl] at this
            exact this
          | zero e0 ez e1 =>
            subst e0
            have : oc = [] := List.eq_nil_of_length_eq_zero (by rw [hocl]; simp)
            subst this
            simp [Builtin.firstCells, loadCells, loadCellsFrom]
        -- a new row
        have fresh : ∀ (d0 : Delta) (ad : Addr) (c' : Nat), s' = .slice (some ad) len c' → c' < len + m → (∀ i o', app d0 σ i = some o' → σ i = some o') → v = .slice (some ⟨n, 0, none⟩) ((ob.es.drop o).take len ++ xs).length 0 → d = (n, some ⟨(ob.es.drop o).take len ++ xs, ei.size, elem, true⟩) :: d0 → n' = n + 1 → GoodV E.den N w0 ι σ n n' v d ((Builtin.append_ ats ty args).run P w) := by
          intro d0 ad c' hs' hlt hless hv hdd hnn
          subst hv hdd hnn
          obtain ⟨newCap, rest, hnc, hrest, r, hr, hrun⟩ := grow (some ad) len c' oc hs' hlt q4' hold
          rw [hrun]
          have hfr := hn n (Nat.le_refl _) (by omega)
          have hR' : Rel E.den N w0 ι (app d0 σ) w := hR.less hless
          have hlenxs : ((ob.es.drop o).take len ++ xs).length = len + m := by rw [List.length_append, q2', hm]
          refine ⟨_, _, ι.set n ⟨w.heap.size, 0, ei.size, newCap, none⟩, rfl, Inj.set_le hfr _, fun i => Inj.set_only i, ?_, ?_⟩
          · have := rel_new (o := ⟨(ob.es.drop o).take len ++ xs, ei.size, elem, true⟩) (p := ⟨w.heap.size, 0, ei.size, newCap, none⟩) (arr := ⟨oc⟩ ++ ⟨cs⟩ ++ r) (fz := (0, 0)) hR' hfr rfl rfl q5' (by show _ ≤ newCap; rw [hlenxs]; exact hnc) (fun k e hk => hpre e (List.mem_of_getElem? hk)) (by
              have := holds_flat (rest := r.toList) hpre hpreone hpc
              simpa using this) (by
              simp [hr, hrest, hcl, hocl]
              rw [Nat.sub_mul, ← Nat.add_mul, ← Nat.add_sub_assoc (Nat.mul_le_mul_right _ hnc), Nat.add_sub_cancel_left]
              exact Nat.le_refl _) (FzOk.zero _ _) (w.drawn + 1)
            exact this
          · rw [hlenxs]
            exact VR_row ι n ⟨w.heap.size, 0, ei.size, newCap, none⟩ hnc rfl
        split at h
        · -- a clipped slice
          rename_i hc1
          obtain ⟨hv, hdd, hnn⟩ := ret_run (fresh_run h)
          cases hS0 ob with
          | nil _ h23 => omega
          | at_ hp hcc' hcc e0 e1 => exact fresh [] _ _ rfl (by have := e1 hc1; omega) (fun i o' e => e) hv hdd hnn
          | zero e0 ez e1 => subst e0; exact fresh [] _ _ rfl (by omega) (fun i o' e => e) hv hdd hnn
        · rename_i hc1
          split at h
          · exact (fail_run h).elim
          · rename_i hc0
            simp only [Bool.or_eq_true, decide_eq_true_eq, not_or, Decidable.not_not, Bool.not_eq_true', Bool.not_eq_false] at hc0
            obtain ⟨hc00, hw⟩ := hc0
            have hc00' : c = 0 := by simpa using hc00
            have hw' : ob.w = true := by simpa using hw
            subst hc00'
            split at h
            · -- in place, for sure
              rename_i hfit
              obtain ⟨rfl, rfl, rfl⟩ := ret_run h
              rw [hm] at hfit
              have hcap := g3.cap
              obtain ⟨e1, e2⟩ := write_run (P := P) (o := o + len) hR ho g1 g3 hw' (by have := g3.cap; omega) (by rw [q1']; exact hxl) hone hcs (by rw [hm]; exact hfit)
              cases hS0 ob with
              | nil _ h23 => omega
              | @at_ p' c' hp hcc' hcc e0 _ =>
                rw [g1] at hp; cases hp
                have e0' := e0 rfl
                rw [head _ _ _ rfl (by omega)]
                simp only [Sem.run_bind, addr_add]
                have ea : p.off + o * p.sz + len * ei.size = p.off + (o + len) * p.sz := by rw [Nat.add_mul, g3.sz, q1']; omega
                rw [ea]
                simp only [e1, Result.andThen_ok, Sem.run_pure]
                refine ⟨_, _, ι, rfl, Inj.le_refl _, fun i h => absurd rfl h, e2, ?_⟩
                rw [hm]
                exact VR_slice g1 (by omega) rfl rfl e0'
              | zero e0 ez _ =>
                obtain ⟨p', hp', hz'⟩ := ez rfl
                rw [g1] at hp'; cases hp'
                omega
            · -- grown
              rename_i hfit
              rw [hm] at hfit
              obtain ⟨hv, hdd, hnn⟩ := ret_run (fresh_run h)
              have hless : ∀ i o', app [(j, none)] σ i = some o' → σ i = some o' := fun i o' e => by
                simp only [app] at e
                split at e
                · cases e
                · exact e
              cases hS0 ob with
              | nil _ h23 => omega
              | @at_ p' c' hp hcc' hcc e0 _ =>
                rw [g1] at hp; cases hp
                have e0' := e0 rfl
                by_cases hin : len + m ≤ c'
                · -- there was room
                  subst hv hdd hnn
                  have hfr := hn n (Nat.le_refl _) (by omega)
                  obtain ⟨hN, arr, fz, hb, hroom2, hfz⟩ := g3.own hw' (by omega)
                  have hsz := g3.sz
                  have hone' : ∀ v ∈ cs, oneB v = true := by
                    intro v hv
                    obtain ⟨m', hm'⟩ := List.getElem?_of_mem hv
                    obtain ⟨v0, e0, hv0⟩ := hcs.get' m' v hm'
                    rw [hv0.oneB]
                    have := List.mem_of_getElem? e0
                    rw [List.mem_flatten] at this
                    obtain ⟨e, he, hve⟩ := this
                    exact List.all_eq_true.1 (hone e he) v0 hve
                  have hb1 : (o + (len + m)) * ei.size ≤ p.cap * ei.size := Nat.mul_le_mul_right _ (by omega)
                  rw [Nat.add_mul, Nat.add_mul] at hb1
                  rw [hsz, q1'] at hroom2
                  have ha : arr.toList.length = arr.size := Array.length_toList
                  have ea : p.off + o * p.sz + len * ei.size = p.off + o * ei.size + len * ei.size := by rw [hsz, q1']
                  have est := storeCells_run P p.b ob.t fz (p.off + o * ei.size + len * ei.size) cs 0 arr w hb hfz.1 (by rw [hcl]; omega) hone'
                  rw [head _ _ _ rfl hin]
                  simp only [Sem.run_bind, addr_add, ea, est, Result.andThen_ok, Sem.run_pure, Nat.add_zero]
                  refine ⟨_, _, ι.set n ⟨p.b, p.off + o * ei.size, ei.size, c', none⟩, rfl, Inj.set_le hfr _, fun i => Inj.set_only i, ?_, ?_⟩
                  · have hH : Holds ι ei.size ((ob.es.drop o).take len ++ xs) (ov arr.toList (p.off + o * ei.size + len * ei.size) cs) (p.off + o * ei.size) := by
                      intro k e he j2 v hv
                      have hmem := List.mem_of_getElem? he
                      have hj2 : j2 < ei.size := by rw [← hpre e hmem]; exact (List.getElem?_eq_some_iff.1 hv).1
                      rw [ov_get (by rw [hcl, ha]; omega)]
                      by_cases hk : k < len
                      · rw [List.getElem?_append_left (by rw [q2']; exact hk), List.getElem?_take, if_pos hk, List.getElem?_drop] at he
                        have := mul_step hk hj2
                        rw [if_pos (by omega)]
                        obtain ⟨v', f1, f2, f3⟩ := g3.holds hb (o + k) e he j2 v hv
                        refine ⟨v', ?_, f2, f3⟩
                        rw [← f1, hsz, q1', Nat.add_mul, Nat.add_assoc p.off]
                      · rw [List.getElem?_append_right (by rw [q2']; omega), q2'] at he
                        have h1 : len * ei.size ≤ k * ei.size := Nat.mul_le_mul_right _ (by omega)
                        have hkm : k - len < m := by rw [← hm]; exact (List.getElem?_eq_some_iff.1 he).1
                        have h2 := mul_step (sz := ei.size) (show k - len < m from hkm) hj2
                        rw [Nat.sub_mul] at h2
                        rw [if_neg (by omega), if_pos (by rw [hcl]; omega)]
                        have hf := flat_get hxl (k - len) e j2 he hj2
                        rw [hv] at hf
                        obtain ⟨v', f1, f2⟩ := hcs.get _ _ hf
                        refine ⟨v', ?_, f2, List.all_eq_true.1 (hpreone e hmem) v (List.mem_of_getElem? hv)⟩
                        rw [← f1]
                        congr 1
                        rw [Nat.sub_mul]
                        omega
                    have := rel_regrow hR ho hw' g1 (by omega) hfr (o' := ⟨(ob.es.drop o).take len ++ xs, ei.size, elem, true⟩) (p' := ⟨p.b, p.off + o * ei.size, ei.size, c', none⟩) (arr' := ov arr.toList (p.off + o * ei.size + len * ei.size) cs) rfl q3'.symm q1'.symm rfl q5' rfl (by show _ ≤ c'; rw [List.length_append, q2', hm]; exact hin) (fun k e hk => hpre e (List.mem_of_getElem? hk)) hb (by rw [ov_length (e := arr.toList) (j := p.off + o * ei.size + len * ei.size) (c := cs) (by rw [hcl, ha]; omega), ha]) hH (by show p.off + o * ei.size + c' * ei.size ≤ arr.size; rw [e0', Nat.sub_mul]; omega)
                    exact this
                  · have h_ := VR_slice (ι := ι.set n ⟨p.b, p.off + o * ei.size, ei.size, c', none⟩) (i := n) (o := 0) (n := len + m) (b := p.b) (q := p.off + o * p.sz) (c := c') (Inj.set_self _ _ _) (by show 0 + (len + m) ≤ c'; omega) rfl (by rw [hsz, q1']; simp) (by simp)
                    rw [List.length_append, q2', hm]
                    exact h_
                · exact fresh [(j, none)] _ _ rfl (by omega) hless hv hdd hnn
              | zero e0 ez _ => subst e0; exact fresh [(j, none)] _ _ rfl (by omega) hless hv hdd hnn
  · exact (fail_run h).elim
theorem append_run (hE : EnvOk P E) (hR : Rel E.den N w0 ι σ w) (hn : ∀ i, n ≤ i → i < n' → ι i = none) {t u elem ty : Nat} {ti ui ei : TI} {ats : Array TypeId} {args : Array Value} {s s' x' : Value} (ht : E.ty t = some ti) (hd : ti.d = .slice elem) (hu : E.ty u = some ui) (hud : ∀ k, ui.d ≠ .int k) (he : E.ty elem = some ei)
    (h0 : ats[0]? = some t) (h1 : ats[1]? = some u) (h2 : args[0]? = some s') (h3 : args[1]? = some x') (hs : VR ι s s') {xs : List (List Value)} {cs : List Value} {m : Nat} (hm : xs.length = m) (hlen : (Builtin.lenOf x').run P w = .ok m w) (hxl : ∀ e ∈ xs, e.length = ei.size) (hcs : VRs ι xs.flatten cs) (hone : ∀ e ∈ xs, e.all oneB = true)
    (hfc : ∀ q, q ≤ m → ∀ w1 : World, (∀ b : Nat, w1.heap[b]? = w.heap[b]?) → (Builtin.firstCells ei.size q x').run P w1 = .ok ⟨cs.take (q * ei.size)⟩ w1) (h : (aappend elem ei s xs).run n σ = some (v, n', d)) :
    GoodV E.den N w0 ι σ n n' v d ((Builtin.append_ ats ty args).run P w) := by
  have hcl : cs.length = m * ei.size := by rw [← hcs.length, flat_length hxl, hm]
  have hfull : cs.take (m * ei.size) = cs := by rw [← hcl]; simp
  -- the head of the model's append
  have head : ∀ (base : Option Addr) (sLen sCap : Nat), s' = .slice base sLen sCap → sLen + m ≤ sCap → (Builtin.append_ ats ty args).run P w = ((do
      if let some a := base then storeCells (a.add (sLen * ei.size)) cs
      pure (.slice base (sLen + m) sCap) : Sem Value)).run P w := by
    intro base sLen sCap hs' hle
    subst hs'
    unfold Builtin.append_
    have hz : (match ui.d with | .int _ => true | _ => false) = false := by
      cases hk : ui.d <;> simp_all
    simp only [h0, h1, h2, h3, Sem.run_bind, und_run hE w ht, hd, und_run hE w hu, Result.andThen_ok, size_run hE w he, Sem.run_pure]
    cases hk : ui.d <;> first
      | exact absurd hk (hud _)
      | (simp only [hlen, Result.andThen_ok, hle, if_true, Bool.not_false, Bool.false_eq_true, if_false, Sem.run_bind, hfc m (Nat.le_refl _) w (fun _ => rfl), hfull]; cases base <;> rfl)
  have grow : ∀ (base : Option Addr) (sLen sCap : Nat) (oc : List Value), s' = .slice base sLen sCap → sCap < sLen + m → small (sLen + m) ei.bytes = true →
      (∀ w1 : World, (∀ b : Nat, w1.heap[b]? = w.heap[b]?) → (Builtin.firstCells ei.size sLen s').run P w1 = .ok ⟨oc⟩ w1) →
      ∃ newCap rest, sLen + m ≤ newCap ∧ rest = (newCap - (sLen + m)) * ei.size ∧ ∃ r : Array Value, r.size = rest ∧
      (Builtin.append_ ats ty args).run P w = .ok (.slice (some ⟨w.heap.size, 0, none⟩) (sLen + m) newCap) { w with heap := w.heap.push (.cells (⟨oc⟩ ++ ⟨cs⟩ ++ r) elem (0, 0)), drawn := w.drawn + 1 } := by
    intro base sLen sCap oc hs' hlt hsm hold
    subst hs'
    simp only [small, Bool.and_eq_true, decide_eq_true_eq] at hsm
    obtain ⟨inf, hinf, hby⟩ := bytes_run hE w he
    obtain ⟨_, inf2, i1, i2, i3, i4⟩ := hE.ty _ _ he
    have htyp : ∀ w1 : World, (typeInfo elem).run P w1 = .ok inf2 w1 := fun w1 => by simp [typeInfo, i1]
    have hnc := nextcap_le hlt
    have hbig : ¬ Builtin.nextslicecap (sLen + m) sCap * inf2.bytes > 2 ^ 48 := by
      rw [i4]
      have h1 : Builtin.nextslicecap (sLen + m) sCap * ei.bytes ≤ (2 * 1073741824 + 192) * 65536 := Nat.mul_le_mul (by omega) hsm.2
      have : (2 * 1073741824 + 192) * 65536 ≤ 2 ^ 48 := by decide
      omega
    have hmax : ¬ ((sLen + m : Nat) : Int) > IntKind.i64.max := by
      simp only [IntKind.max, IntKind.signed, IntKind.bits]
      simp
      omega
    let q : Question := .appendCap (sLen + m) sCap elem
    let newCap := q.cut (w.tape w.drawn q)
    have hnew : sLen + m ≤ newCap := cut_ge _ _ _ _
    obtain ⟨hz1, hz2, hz3⟩ := hE.zero _ _ he
    have hzsz : ei.zero.cells.size = ei.size := by unfold cellsL at hz2; simpa using hz2
    refine ⟨newCap, _, hnew, rfl, Builtin.zeroCells ei.zero.cells (newCap - (sLen + m)), by simp [Builtin.zeroCells, hzsz], ?_⟩
    unfold Builtin.append_
    simp only [h0, h1, h2, h3, Sem.run_bind, und_run hE w ht, hd, und_run hE w hu, Result.andThen_ok, size_run hE w he, Sem.run_pure]
    have hnle : ¬ sLen + m ≤ sCap := by omega
    have hw1 : ∀ b : Nat, ({ w with drawn := w.drawn + 1 } : World).heap[b]? = w.heap[b]? := fun _ => rfl
    have e1 := hold { w with drawn := w.drawn + 1 } hw1
    have e2 := hfc m (Nat.le_refl _) { w with drawn := w.drawn + 1 } hw1
    rw [hfull] at e2
    have hforced : q.forced = false := rfl
    cases hk : ui.d <;> first
      | exact absurd hk (hud _)
      | (simp only [hlen, Result.andThen_ok, hnle, hmax, false_and, if_false, htyp, hbig, Bool.not_false, Bool.false_eq_true, Sem.run_bind, run_choose, run_askRoom, Sem.run_pure, zero_run hE _ he, newRow, run_newObj]
         rw [if_neg (by rw [show (Question.appendCap (sLen + m) sCap elem).forced = false from rfl]; simp)]
         simp only [Result.andThen_ok, e1, e2, if_true, Sem.run_bind, zero_run hE _ he, Sem.run_pure, htyp, run_askRoom, run_newObj]
         rfl)
  exact append_core hE hR hn ht hd hu he h0 h1 h2 h3 hs hm hxl hcs hone head grow h
end
end Go.Proofs.YtgajcmanompmcaaV
