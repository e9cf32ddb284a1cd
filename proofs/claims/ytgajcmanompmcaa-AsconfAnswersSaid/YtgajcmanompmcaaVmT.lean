/- The abstract machine: what comes in. Whatever reads as data of a type is told by an abstract value over objects that are only read. -/
import Derived.Test.YtgajcmanompmcaaVmS
import Derived.WalkKit
import Derived.Laws.BitsLemmas
import Derived.ProofKit
import Derived.OpenShut
import Derived.ShutString
import Derived.ChangeOld
import Derived.Below
import Derived.SizedLaws
set_option linter.unusedVariables false
set_option linter.unusedSimpArgs false
namespace Go.Proofs.YtgajcmanompmcaaV
open Go Go.RowKit Go.ChangeShapes Go.WideShapes

structure At (N : Nat) (w0 : World) (ι : Inj) (σ : Store) (n : Nat) (w : World) : Prop where
  rel : Rel noDen N w0 ι σ w
  fresh : ∀ i, n ≤ i → ι i = none
  low : ∀ i, i < 1073741824 → ι i = none
  ge : 1073741824 ≤ n
theorem at_none (W : World) : At W.heap.size W noIds noStore 1073741824 W := ⟨rel_none W, fun _ _ => rfl, fun _ _ => rfl, Nat.le_refl _⟩
/-- What is told of cells; it stays when the store grows. -/
structure Gd where
  G : Store → List Value → Prop
  mono : ∀ {σ σ' : Store} {cs : List Value}, Sub σ σ' → G σ cs → G σ' cs
def Gd.int (k : IntKind) : Gd := ⟨fun _ cs => ∃ n, cs = [.int k n] ∧ (Lit.int k n).wf = true, fun _ h => h⟩
def Gd.bool : Gd := ⟨fun _ cs => ∃ b, cs = [.bool b], fun _ h => h⟩
def Gd.str : Gd := ⟨fun _ cs => ∃ s, cs = [.string s] ∧ s.size ≤ 9223372036854775807, fun _ h => h⟩
def gAll : List Gd → Store → List Value → Prop
  | [], _, cs => cs = []
  | g :: r, σ, cs => ∃ a b, cs = a ++ b ∧ g.G σ a ∧ gAll r σ b
theorem gAll_mono {σ σ' : Store} (hs : Sub σ σ') : ∀ {l : List Gd} {cs : List Value}, gAll l σ cs → gAll l σ' cs
  | [], _, h => h
  | g :: r, _, ⟨a, b, e, h1, h2⟩ => ⟨a, b, e, g.mono hs h1, gAll_mono hs h2⟩
def Gd.agg (l : List Gd) : Gd := ⟨gAll l, fun hs h => gAll_mono hs h⟩
/-- A slice that came in, and its elements. -/
inductive RowAt (σ : Store) (e sz : Nat) : Value → List (List Value) → Prop
  | nil : RowAt σ e sz (.slice none 0 0) []
  | zero : RowAt σ e sz (.slice (some ⟨0, 0, none⟩) 0 1) []
  | obj {i : Nat} {es : List (List Value)} (h : σ i = some ⟨es, sz, e, false⟩) : RowAt σ e sz (.slice (some ⟨i, 0, none⟩) es.length 0) es
theorem RowAt.mono {σ σ' : Store} (hs : Sub σ σ') {e sz : Nat} {v : Value} {es : List (List Value)} : RowAt σ e sz v es → RowAt σ' e sz v es
  | .nil => .nil
  | .zero => .zero
  | .obj h => .obj (hs _ _ h)
theorem RowAt.shape {σ : Store} {e sz : Nat} {v : Value} {es : List (List Value)} (h : RowAt σ e sz v es) : ∃ a c, v = .slice a es.length c := by
  cases h <;> exact ⟨_, _, rfl⟩
def Gd.row (e sz : Nat) (g : Gd) : Gd := ⟨fun σ cs => ∃ v es, cs = [v] ∧ RowAt σ e sz v es ∧ ∀ x ∈ es, g.G σ x, fun hs ⟨v, es, h1, h2, h3⟩ => ⟨v, es, h1, h2.mono hs, fun x hx => g.mono hs (h3 x hx)⟩⟩

/-- What a step of the telling leaves. -/
def Told (N : Nat) (w0 : World) (w : World) (ι : Inj) (σ : Store) (n : Nat) (Q : Inj → Store → Prop) : Prop :=
  ∃ ι' σ' n', n ≤ n' ∧ ι.le ι' ∧ Sub σ σ' ∧ At N w0 ι' σ' n' w ∧ Q ι' σ'
def Opn (P : Program) (N : Nat) (w0 w : World) (t : Nat) (g : Gd) : Prop :=
  ∀ {H : Type} {enc : TypeId × Value → H} {fuel : Nat} {cs : List Value} {x : DataW H × List MemPlace}, DataW.trod enc P w 0 (fun _ => true) true fuel t cs = some x →
    ∀ ι σ n, At N w0 ι σ n w → Told N w0 w ι σ n fun ι' σ' => ∃ acs, VRs ι' acs cs ∧ acs.all oneB = true ∧ g.G σ' acs
theorem Sub.trans {σ τ υ : Store} (h : Sub σ τ) (k : Sub τ υ) : Sub σ υ := fun i o e => k i o (h i o e)
section
variable {P : Program} {N : Nat} {w0 w : World} {t : Nat}
theorem Opn.int {k : IntKind} (ht : P.underlying t = some (.int k)) : Opn P N w0 w t (Gd.int k) := by
  intro H enc fuel cs x h ι σ n hA
  obtain ⟨m, rfl, _, hw⟩ := DataW.trod_int ht h
  exact ⟨ι, σ, n, Nat.le_refl _, Inj.le_refl _, Sub.refl _, hA, [.int k m], .cons (.int _ _) .nil, rfl, m, rfl, hw⟩
theorem Opn.bool (ht : P.underlying t = some .bool) : Opn P N w0 w t Gd.bool := by
  intro H enc fuel cs x h ι σ n hA
  obtain ⟨b, rfl, _⟩ := DataW.trod_bool ht h
  exact ⟨ι, σ, n, Nat.le_refl _, Inj.le_refl _, Sub.refl _, hA, [.bool b], .cons (.bool _) .nil, rfl, b, rfl⟩
theorem Opn.str (ht : P.underlying t = some .string) : Opn P N w0 w t Gd.str := by
  intro H enc fuel cs x h ι σ n hA
  obtain ⟨s, rfl, _, hs⟩ := DataW.trod_string ht h
  exact ⟨ι, σ, n, Nat.le_refl _, Inj.le_refl _, Sub.refl _, hA, [.string s], .cons (.str _) .nil, rfl, s, rfl, hs⟩
/-- Pieces (type, offset) that lie one after another from 'o' to the end 'm'. -/
def chainB (P : Program) (m : Nat) : Nat → List (Nat × Nat) → Bool
  | o, [] => o == m
  | o, (t, f) :: r => f == o && chainB P m (o + P.cellsOf t) r
def OpnAll (P : Program) (N : Nat) (w0 w : World) : List (Nat × Nat) → List Gd → Prop
  | [], [] => True
  | (t, _) :: r, g :: s => Opn P N w0 w t g ∧ OpnAll P N w0 w r s
  | _, _ => False
theorem opn_pieces {H : Type} {enc : TypeId × Value → H} {fuel : Nat} {cs : List Value} : ∀ (l : List (Nat × Nat)) (gs : List Gd) (o : Nat), OpnAll P N w0 w l gs → chainB P cs.length o l = true →
    (∀ p ∈ l, ∃ x, DataW.trod enc P w 0 (fun _ => true) true fuel p.1 ((cs.drop p.2).take (P.cellsOf p.1)) = some x) → ∀ ι σ n, At N w0 ι σ n w → Told N w0 w ι σ n fun ι' σ' => ∃ acs, VRs ι' acs (cs.drop o) ∧ acs.all oneB = true ∧ gAll gs σ' acs
  | [], [], o, _, hc, _, ι, σ, n, hA => by
    simp [chainB] at hc
    exact ⟨ι, σ, n, Nat.le_refl _, Inj.le_refl _, Sub.refl _, hA, [], by rw [List.drop_of_length_le (by omega)]; exact .nil, rfl, rfl⟩
  | (t, f) :: r, g :: s, o, ⟨ho, hr⟩, hc, hx, ι, σ, n, hA => by
    simp [chainB] at hc
    obtain ⟨rfl, hc⟩ := hc
    obtain ⟨x, hx0⟩ := hx (t, f) (by simp)
    obtain ⟨ι1, σ1, n1, a1, a2, a3, a4, acs, b1, b2, b3⟩ := ho hx0 ι σ n hA
    obtain ⟨ι2, σ2, n2, c1, c2, c3, c4, acs2, d1, d2, d3⟩ := opn_pieces r s (f + P.cellsOf t) hr hc (fun p hp => hx p (by simp [hp])) ι1 σ1 n1 a4
    refine ⟨ι2, σ2, n2, by omega, Inj.le_trans a2 c2, a3.trans c3, c4, acs ++ acs2, ?_, by simp [List.all_append, b2, d2], acs, acs2, rfl, g.mono c3 b3, d3⟩
    rw [← List.take_append_drop (P.cellsOf t) (cs.drop f)]
    have := d1
    rw [← List.drop_drop] at this
    exact (b1.mono c2).append this
  | [], _ :: _, _, h, _, _, _, _, _, _ => by cases h
  | _ :: _, [], _, h, _, _, _, _, _, _ => by cases h
theorem Opn.struct {fs : Array Field} {gs : List Gd} (ht : P.underlying t = some (.struct fs)) (hc : chainB P (P.cellsOf t) 0 (fs.toList.map fun f => (f.type, f.offset)) = true)
    (ho : OpnAll P N w0 w (fs.toList.map fun f => (f.type, f.offset)) gs) : Opn P N w0 w t (Gd.agg gs) := by
  intro H enc fuel cs x h ι σ n hA
  obtain ⟨xs, m, _, _, hcl, hxl, hf⟩ := DataW.trod_struct ht h
  have := opn_pieces (P := P) (N := N) (w0 := w0) (w := w) (enc := enc) (fuel := m) (cs := cs) _ gs 0 ho (by rw [hcl]; exact hc) (fun p hp => by
    rw [List.mem_map] at hp
    obtain ⟨f, hf1, rfl⟩ := hp
    obtain ⟨i, hi, rfl⟩ := List.getElem_of_mem hf1
    have hi' : i < fs.size := by simpa using hi
    have h2 := hf i (fs.toList[i]'hi) (by simp [hi'])
    rw [List.getElem?_eq_getElem (by omega)] at h2
    exact ⟨_, h2⟩) ι σ n hA
  rw [List.drop_zero] at this
  exact this
theorem Opn.array {m : Nat} {e : Nat} {gs : List Gd} (ht : P.underlying t = some (.array m e)) (hc : chainB P (P.cellsOf t) 0 ((List.range m).map fun i => (e, i * P.cellsOf e)) = true)
    (ho : OpnAll P N w0 w ((List.range m).map fun i => (e, i * P.cellsOf e)) gs) : Opn P N w0 w t (Gd.agg gs) := by
  intro H enc fuel cs x h ι σ n hA
  obtain ⟨xs, q, _, _, hcl, hxl, hf⟩ := DataW.trod_array ht h
  have := opn_pieces (P := P) (N := N) (w0 := w0) (w := w) (enc := enc) (fuel := q) (cs := cs) _ gs 0 ho (by rw [hcl]; exact hc) (fun p hp => by
    rw [List.mem_map] at hp
    obtain ⟨i, hf1, rfl⟩ := hp
    have hi : i < m := by simpa using hf1
    have h2 := hf i hi
    rw [List.getElem?_eq_getElem (by omega)] at h2
    exact ⟨_, h2⟩) ι σ n hA
  rw [List.drop_zero] at this
  exact this

/-- The elements that a slice shows, one after another. -/
theorem opn_rows {H : Type} {enc : TypeId × Value → H} {fuel : Nat} {e : Nat} {g : Gd} (ho : Opn P N w0 w e g) {a : Addr} {sz : Nat} : ∀ (m : Nat), (∀ i, i < m → ∃ c x, c.length = sz ∧ DataW.trod enc P w 0 (fun _ => true) true fuel e c = some x ∧ ∀ q u, c[q]? = some u → w.cell? ⟨a.block, a.off + i * sz + q, none⟩ = some u) →
    ∀ ι σ n, At N w0 ι σ n w → Told N w0 w ι σ n fun ι' σ' => ∃ es : List (List Value), es.length = m ∧ (∀ (k : Nat) (el : List Value), es[k]? = some el → el.length = sz ∧ ∀ (j : Nat) (v : Value), el[j]? = some v → ∃ v', w.cell? ⟨a.block, a.off + k * sz + j, none⟩ = some v' ∧ VR ι' v v' ∧ oneB v = true) ∧ ∀ x ∈ es, g.G σ' x
  | 0, _, ι, σ, n, hA => ⟨ι, σ, n, Nat.le_refl _, Inj.le_refl _, Sub.refl _, hA, [], rfl, fun k el h => by simp at h, fun x h => by simp at h⟩
  | m + 1, hx, ι, σ, n, hA => by
    obtain ⟨ι1, σ1, n1, a1, a2, a3, a4, es, b1, b2, b3⟩ := opn_rows ho m (fun i hi => hx i (by omega)) ι σ n hA
    obtain ⟨c, x, c1, c2, c3⟩ := hx m (by omega)
    obtain ⟨ι2, σ2, n2, d1, d2, d3, d4, acs, e1, e2, e3⟩ := ho c2 ι1 σ1 n1 a4
    refine ⟨ι2, σ2, n2, by omega, Inj.le_trans a2 d2, a3.trans d3, d4, es ++ [acs], by simp [b1], fun k el hk => ?_, fun y hy => ?_⟩
    · rcases Nat.lt_or_ge k es.length with hl | hl
      · rw [List.getElem?_append_left hl] at hk
        obtain ⟨f1, f2⟩ := b2 k el hk
        exact ⟨f1, fun j v hj => by obtain ⟨v', g1, g2, g3⟩ := f2 j v hj; exact ⟨v', g1, g2.mono d2, g3⟩⟩
      · have hk' : k = m := by
          have := (List.getElem?_eq_some_iff.1 hk).1
          rw [List.length_append, List.length_singleton] at this
          omega
        subst hk'
        rw [List.getElem?_append_right hl, b1] at hk
        simp at hk
        subst hk
        refine ⟨by rw [e1.length, c1], fun j v hj => ?_⟩
        obtain ⟨v', h1, h2⟩ := e1.get j v hj
        exact ⟨v', c3 j v' h1, h2, by rw [List.all_eq_true] at e2; exact e2 v (List.mem_of_getElem? hj)⟩
    · rw [List.mem_append] at hy
      rcases hy with hy | hy
      · exact g.mono d3 (b3 y hy)
      · simp at hy; subst hy; exact e3
/-- A new object that is only read. -/
theorem At.ro {ι : Inj} {σ : Store} {n : Nat} (hA : At N w0 ι σ n w) (o : AObj) (p : Place) (hw : o.w = false) (hb : p.b < w.heap.size) (ho : ∀ κ : Inj, ι.le κ → ObjR N κ o p w) (hid : ∀ i q, ι i = some q → ∀ o', σ i = some o' → o'.w = true → Ph o' q ∨ q.b ≠ p.b) :
    At N w0 (fun i => if i = n then some p else ι i) (fun i => if i = n then some o else σ i) (n + 1) w := by
  have hn := hA.fresh n (Nat.le_refl _)
  have hle : ι.le (fun i => if i = n then some p else ι i) := fun i q e => by
    show (if i = n then some p else ι i) = some q
    rw [if_neg (fun hi => by rw [hi, hn] at e; cases e)]; exact e
  refine ⟨⟨hA.rel.below, hA.rel.size, fun i q e => ?_, fun i j q q' r r' e1 e2 f1 f2 hij hwq => ?_, fun c v e => (by cases e)⟩, fun i hi => by
    show (if i = n then some p else ι i) = none
    rw [if_neg (by omega)]; exact hA.fresh i (by omega), fun i hi => by
    have := hA.ge
    show (if i = n then some p else ι i) = none
    rw [if_neg (by omega)]; exact hA.low i hi, by have := hA.ge; omega⟩
  · by_cases hi : i = n
    · simp only [if_pos hi] at e ⊢
      cases e
      exact ⟨p, rfl, .inr hb, ho _ hle⟩
    · simp only [if_neg hi] at e ⊢
      obtain ⟨p', h1, h2, h3⟩ := hA.rel.obj i q e
      exact ⟨p', h1, h2, h3.keep hle (.inr rfl)⟩
  · by_cases hi : i = n
    · simp only [if_pos hi] at e1
      cases e1
      rw [hw] at hwq; cases hwq
    · simp only [if_neg hi] at e1 f1
      by_cases hj : j = n
      · simp only [if_pos hj] at e2 f2
        cases f2
        exact (hid i r f1 q e1 hwq).imp (fun h => h) .inr
      · simp only [if_neg hj] at e2 f2
        exact hA.rel.sep i j q q' r r' e1 e2 f1 f2 hij hwq
/-- What is only read so far. -/
def Ro (σ : Store) : Prop := ∀ i o, σ i = some o → o.w = false
theorem Opn.slice {e sz : Nat} {g : Gd} (ht : P.underlying t = some (.slice e)) (hsz : P.cellsOf e = sz) (hpos : 0 < sz) (ho : Opn P N w0 w e g) (hN : N = w.heap.size) : Opn P N w0 w t (Gd.row e sz g) := by
  intro H enc fuel cs x h ι σ n hA
  rcases DataW.trod_slice ht h with ⟨rfl, _⟩ | ⟨a, len, cap, elems, rest, m, _, rfl, _, _, hlc, hm, hlen, hel, hsp, _⟩
  · exact ⟨ι, σ, n, Nat.le_refl _, Inj.le_refl _, Sub.refl _, hA, [.slice none 0 0], .cons .sliceNil .nil, rfl, _, [], rfl, .nil, fun x h => by simp at h⟩
  rcases Nat.eq_zero_or_pos cap with hc0 | hc0
  · subst hc0
    obtain rfl : len = 0 := by omega
    exact ⟨ι, σ, n, Nat.le_refl _, Inj.le_refl _, Sub.refl _, hA, [.slice (some ⟨0, 0, none⟩) 0 1], .cons .sliceZ1 .nil, rfl, _, [], rfl, .zero, fun x h => by simp at h⟩
  obtain ⟨hr1, hr2⟩ := hsp rfl
  -- the first element that is there
  have first : ∃ c, w.cells? 0 a sz = some c := by
    rcases Nat.eq_zero_or_pos len with h0 | h0
    · subst h0
      have := hr2 0 (by omega)
      rw [List.getElem?_eq_getElem (by omega)] at this
      obtain ⟨c, hc, _⟩ := Option.bind_eq_some_iff.1 this
      rw [hsz] at hc
      exact ⟨c, by simpa [Addr.add] using hc⟩
    · have := hel 0 h0
      rw [List.getElem?_eq_getElem (by omega)] at this
      obtain ⟨c, hc, _⟩ := Option.bind_eq_some_iff.1 this
      rw [hsz] at hc
      exact ⟨c, by simpa [Addr.add] using hc⟩
  obtain ⟨c0, hc0'⟩ := first
  obtain ⟨_, hcl0, hcc0⟩ := World.cells?_some hc0'
  have h00 := hcc0 0 hpos
  rw [List.getElem?_eq_getElem (by omega)] at h00
  have hspot : a.spot = none ∧ a.block < w.heap.size := by
    have e0 : a.add 0 = a := by simp [Addr.add]
    rw [e0] at h00
    unfold World.cell? at h00
    split at h00
    · rename_i c1 t1 f1 hb
      split at h00
      · cases h00
      · rename_i hs
        exact ⟨by simpa using hs, (Array.getElem?_eq_some_iff.1 hb).1⟩
    · cases h00
  obtain ⟨ab, ao, asp⟩ := a
  obtain ⟨rfl, hblk⟩ := hspot
  have hblk' : ab < w.heap.size := hblk
  obtain ⟨ι1, σ1, n1, a1, a2, a3, a4, es, b1, b2, b3⟩ := opn_rows (a := ⟨ab, ao, none⟩) (sz := sz) (enc := enc) (fuel := m) ho len (fun i hi => by
    have hi2 := hel i hi
    rw [List.getElem?_eq_getElem (by omega)] at hi2
    obtain ⟨c, hc, ht2⟩ := Option.bind_eq_some_iff.1 hi2
    obtain ⟨_, hcl, hcc⟩ := World.cells?_some hc
    refine ⟨c, _, by rw [hcl, hsz], ht2, fun q u hq => ?_⟩
    have hq' : q < P.cellsOf e := by
      have := (List.getElem?_eq_some_iff.1 hq).1
      omega
    have := hcc q hq'
    rw [hq, hsz, addr_add, addr_add] at this
    exact this) ι σ n hA
  subst b1
  have hobj : ∀ κ : Inj, ι1.le κ → ObjR N κ ⟨es, sz, e, false⟩ ⟨ab, ao, sz, cap, none⟩ w := fun κ hk =>
    ⟨rfl, hpos, hlc, fun k el hk' => (b2 k el hk').1, fun k el hk' j v hj => by
      obtain ⟨v', g1, g2, g3⟩ := (b2 k el hk').2 j v hj
      exact ⟨v', g1, g2.mono hk, g3⟩, fun hw => by cases hw⟩
  have hA2 := a4.ro ⟨es, sz, e, false⟩ ⟨ab, ao, sz, cap, none⟩ rfl hblk' hobj (fun i q hq o' ho' hw' => by
    obtain ⟨q', g1, g2, g3⟩ := a4.rel.obj i o' ho'
    rw [hq] at g1; cases g1
    refine (g3.own' hw').imp (fun h => h) fun h5 => ?_
    have h5 := h5.1
    show q.b ≠ ab
    omega)
  have hn1 := a4.fresh n1 (Nat.le_refl _)
  have hsub : Sub σ1 (fun i => if i = n1 then some ⟨es, sz, e, false⟩ else σ1 i) := fun i o hi => by
    show (if i = n1 then some _ else σ1 i) = some o
    rw [if_neg (fun hh => by
      obtain ⟨q, g1, _⟩ := a4.rel.obj i o hi
      rw [hh, hn1] at g1; cases g1)]
    exact hi
  refine ⟨_, _, n1 + 1, by omega, Inj.le_trans a2 (fun i q hq => ?_), a3.trans hsub, hA2, [.slice (some ⟨n1, 0, none⟩) es.length 0], .cons ?_ .nil, rfl, _, es, rfl, .obj (by simp), fun x hx => g.mono hsub (b3 x hx)⟩
  · show (if i = n1 then some _ else ι1 i) = some q
    rw [if_neg (fun hi => by rw [hi, hn1] at hq; cases hq)]; exact hq
  · have := VR.slice (ι := fun i => if i = n1 then some ⟨ab, ao, sz, cap, none⟩ else ι1 i) (i := n1) (o := 0) (n := es.length) (p := ⟨ab, ao, sz, cap, none⟩) (by simp) (by simpa using hlc)
    simpa using this
end

/-! ### Arguments -/
def ToldArg (N : Nat) (w0 w : World) (ι : Inj) (σ : Store) (n : Nat) (v : Value) (G : Store → Value → Prop) : Prop := Told N w0 w ι σ n fun ι' σ' => ∃ x, VR ι' x v ∧ G σ' x
section
variable {P : Program} {N : Nat} {w0 w : World} {t : Nat} {H : Type} {enc : TypeId × Value → H} {ι : Inj} {σ : Store} {n : Nat} {g : Gd}
theorem arg_one {v : Value} {d : DataW H} {ps : List MemPlace} (ho : Opn P N w0 w t g) (h : DataW.Trod enc P w 0 (fun _ => true) true t v d ps) (hv : v.cells.toList = [v]) (hA : At N w0 ι σ n w) : ToldArg N w0 w ι σ n v fun σ x => g.G σ [x] := by
  obtain ⟨fuel, h⟩ := h
  rw [hv] at h
  obtain ⟨ι1, σ1, n1, a1, a2, a3, a4, acs, b1, b2, b3⟩ := ho h ι σ n hA
  cases b1 with
  | cons h1 h2 => cases h2; exact ⟨ι1, σ1, n1, a1, a2, a3, a4, _, h1, b3⟩
theorem arg_agg {cs : Array Value} {d : DataW H} {ps : List MemPlace} (ho : Opn P N w0 w t g) (h : DataW.Trod enc P w 0 (fun _ => true) true t (.agg cs) d ps) (hA : At N w0 ι σ n w) : ToldArg N w0 w ι σ n (.agg cs) fun σ x => ∃ acs, x = .agg ⟨acs⟩ ∧ g.G σ acs := by
  obtain ⟨fuel, h⟩ := h
  obtain ⟨ι1, σ1, n1, a1, a2, a3, a4, acs, b1, b2, b3⟩ := ho h ι σ n hA
  obtain ⟨cs⟩ := cs
  exact ⟨ι1, σ1, n1, a1, a2, a3, a4, _, .agg b1, acs, rfl, b3⟩
end
theorem agg_mono {g : Gd} {σ σ' : Store} {x : Value} (hs : Sub σ σ') (h : ∃ acs, x = .agg ⟨acs⟩ ∧ g.G σ acs) : ∃ acs, x = .agg ⟨acs⟩ ∧ g.G σ' acs := by
  obtain ⟨acs, h1, h2⟩ := h
  exact ⟨acs, h1, g.mono hs h2⟩
theorem okWide_arr {P : Program} {w : World} {r : Reach} {base t m e : Nat} {v : Value} (ht : P.underlying t = some (.array m e)) (h : Value.okWide P w r base t v) : ∃ cs, v = .agg cs ∧ cs.size = P.cellsOf t := by
  unfold Value.okWide at h
  rw [ht] at h
  obtain ⟨cs, h1, h2, _⟩ := h
  exact ⟨cs, h1, h2⟩
/-- What a call gives: its value, and few objects are made. -/
def Gives (E : Env) (f : Nat) (args : List Value) (σ : Store) (v : Value) : Prop := ∃ k n' d, CallK E k f args 0 σ v n' d ∧ n' ≤ 536870912
def few (r : Value × Nat × Delta) : Value × Bool := (r.1, Nat.ble r.2.1 536870912)
theorem gives_run {E : Env} {F k f : Nat} {args : List Value} {σ : Store} {v : Value} (h : (xcall E F k f args 0 σ).map few = some (v, true)) : Gives E f args σ v := by
  cases hx : xcall E F k f args 0 σ with
  | none => rw [hx] at h; cases h
  | some r =>
    obtain ⟨v', n', d⟩ := r
    rw [hx] at h
    simp [few] at h
    obtain ⟨rfl, h2⟩ := h
    exact ⟨k, n', d, xcall_sound k hx, h2⟩
/-- True, and few objects are made. -/
def yes (r : Option (Value × Nat × Delta)) : Bool := match r with
  | some (.bool true, n, _) => Nat.ble n 536870912
  | _ => false
theorem gives_yes {E : Env} {F k f : Nat} {args : List Value} {σ : Store} (h : yes (xcall E F k f args 0 σ) = true) : Gives E f args σ (.bool true) := by
  unfold yes at h
  split at h
  · rename_i n' d hx
    exact ⟨k, n', d, xcall_sound k hx, Nat.le_of_ble_eq_true h⟩
  · cases h
/-- One number among few: whatever is true of each is true of it. -/
theorem below_all {p : Nat → Bool} {n m : Nat} (h : (List.range n).all p = true) (hm : m < n) : p m = true := by
  rw [List.all_eq_true] at h
  exact h m (List.mem_range.2 hm)
theorem wrap_i64 {m : Nat} (h : m < 2147483648) : IntKind.wrap .i64 (m : Int) = m := by
  rw [IntKind.wrap_i64]
  omega
theorem and_i64 (n : Int) (M : Nat) (hM : M < 2147483648) : ∃ m : Nat, m < M + 1 ∧ ∀ t, binOp .and t (.int .i64 n) (.int .i64 M) = .pure (.int .i64 m) := by
  refine ⟨(BitVec.ofInt 64 n &&& BitVec.ofInt 64 (M : Int)).toNat, ?_, fun t => ?_⟩
  · rw [BitVec.toNat_and]
    have h1 : (BitVec.ofInt 64 (M : Int)).toNat = M := by simp; omega
    rw [h1]
    exact Nat.lt_succ_of_le Nat.and_le_right
  · have h1 : (BitVec.ofInt 64 (M : Int)).toNat = M := by simp; omega
    have h2 : (BitVec.ofInt 64 n &&& BitVec.ofInt 64 (M : Int)).toNat < 2147483648 := by
      rw [BitVec.toNat_and, h1]
      exact Nat.lt_of_le_of_lt Nat.and_le_right hM
    show Op.intBits .and .i64 n M = _
    unfold Op.intBits
    simp only [IntKind.bits]
    exact congrArg Sem.pure (congrArg (Value.int .i64) (wrap_i64 h2))
theorem wrap_u32s {m : Nat} (h : m < 4294967296) : IntKind.wrap .u32 (m : Int) = m := by
  rw [IntKind.wrap_u32]
  omega
theorem and_u32 (n : Int) (M : Nat) (hM : M < 2147483648) : ∃ m : Nat, m < M + 1 ∧ ∀ t, binOp .and t (.int .u32 n) (.int .u32 M) = .pure (.int .u32 m) := by
  refine ⟨(BitVec.ofInt 32 n &&& BitVec.ofInt 32 (M : Int)).toNat, ?_, fun t => ?_⟩
  · rw [BitVec.toNat_and]
    have h1 : (BitVec.ofInt 32 (M : Int)).toNat = M := by simp; omega
    rw [h1]
    exact Nat.lt_succ_of_le Nat.and_le_right
  · have h2 := (BitVec.ofInt 32 n &&& BitVec.ofInt 32 (M : Int)).isLt
    show Op.intBits .and .u32 n M = _
    unfold Op.intBits
    simp only [IntKind.bits]
    exact congrArg Sem.pure (congrArg (Value.int .u32) (wrap_u32s h2))
theorem eql_row (k : IntKind) (n : Int) : ∀ t, binOp .eql t (.int k n) (.int k n) = .pure (.bool true) := by
  intro t
  have : Op.intCmp .eql n n = .pure (.bool true) := congrArg (fun b => Sem.pure (Value.bool b)) (beq_self_eq_true n)
  rw [← this]
  simp [binOp]
theorem neq_row {k : IntKind} {n m : Int} (h : n ≠ m) : ∀ t, binOp .neq t (.int k n) (.int k m) = .pure (.bool true) := by
  intro t
  have : Op.intCmp .neq n m = .pure (.bool true) := congrArg (fun b => Sem.pure (Value.bool b)) (by simp [h])
  rw [← this]
  simp [binOp]
theorem or1_u32 (n : Int) : ∃ r : Int, (r == 0) = false ∧ ∀ t, binOp .or t (.int .u32 n) (.int .u32 1) = .pure (.int .u32 r) := by
  refine ⟨IntKind.wrap .u32 ((BitVec.ofInt 32 n ||| BitVec.ofInt 32 (1 : Int)).toNat : Nat), ?_, fun t => rfl⟩
  have h1 := (BitVec.ofInt 32 n ||| BitVec.ofInt 32 (1 : Int)).isLt
  have h2 : 1 ≤ (BitVec.ofInt 32 n ||| BitVec.ofInt 32 (1 : Int)).toNat := by
    rw [BitVec.toNat_or]
    exact Nat.right_le_or
  rw [IntKind.wrap_u32]
  simp only [beq_eq_false_iff_ne]
  omega
theorem cmp_row {op : BinOp} {k : IntKind} {n m : Int} {b : Bool} (h : Op.intCmp op n m = .pure (.bool b)) (ho : (op == .eql || op == .neq || op == .lss || op == .leq || op == .gtr || op == .geq) = true) : ∀ t, binOp op t (.int k n) (.int k m) = .pure (.bool b) := by
  intro t
  rw [← h]
  cases op <;> first | (cases ho; done) | (simp [binOp])
/-- Numbers told by codes. -/
def code (i : Nat) : Value := .chan (some (536870912 + i))
/-- The codes 0, 1 .. stand for these. -/
def denL (l : List Value) : Den := fun c => if c < 536870912 then none else if c < 1073741824 then l[c - 536870912]? else none
mutual
inductive Rec (D : Den) : Value → Value → Prop
  | same (v : Value) : Rec D v v
  | code {c : Nat} {k : IntKind} {n : Int} (h : D c = some (.int k n)) : Rec D (.chan (some c)) (.int k n)
  | codeS {c : Nat} {s : ByteArray} (h : D c = some (.string s)) : Rec D (.chan (some c)) (.string s)
  | agg {l l' : List Value} (h : Recs D l l') : Rec D (.agg ⟨l⟩) (.agg ⟨l'⟩)
inductive Recs (D : Den) : List Value → List Value → Prop
  | nil : Recs D [] []
  | cons {v v' : Value} {l l' : List Value} (h : Rec D v v') (hs : Recs D l l') : Recs D (v :: l) (v' :: l')
end
theorem Recs.same {D : Den} : ∀ l : List Value, Recs D l l
  | [] => .nil
  | v :: l => .cons (.same v) (Recs.same l)
mutual
theorem Rec.VR {D : Den} {ι κ : Inj} (hk : ι.le κ) (hc : ∀ c v, D c = some v → ∃ p, κ c = some p ∧ p.val = some v) : ∀ {v u x : Value}, Rec D v u → Go.Proofs.YtgajcmanompmcaaV.VR ι u x → Go.Proofs.YtgajcmanompmcaaV.VR κ v x
  | _, _, _, .same v, h => h.mono hk
  | _, _, _, .code h0, h => by
    cases h
    obtain ⟨p, h1, h2⟩ := hc _ _ h0
    exact .sym h1 h2
  | _, _, _, .codeS h0, h => by
    cases h
    obtain ⟨p, h1, h2⟩ := hc _ _ h0
    exact .symS h1 h2
  | _, _, _, .agg h0, h => by
    cases h with
    | agg h1 => exact .agg (Recs.VRs hk hc h0 h1)
theorem Recs.VRs {D : Den} {ι κ : Inj} (hk : ι.le κ) (hc : ∀ c v, D c = some v → ∃ p, κ c = some p ∧ p.val = some v) : ∀ {v u x : List Value}, Recs D v u → Go.Proofs.YtgajcmanompmcaaV.VRs ι u x → Go.Proofs.YtgajcmanompmcaaV.VRs κ v x
  | _, _, _, .nil, h => by cases h; exact .nil
  | _, _, _, .cons h0 hs, h => by
    cases h with
    | cons h1 h2 => exact .cons (Rec.VR hk hc h0 h1) (Recs.VRs hk hc hs h2)
end
/-- The law holds of these arguments: evaluated over codes or over the numbers themselves. -/
def Lawful (P : Program) (f : Nat) (σ : Store) (args : List Value) : Prop :=
  ∃ (E : Env) (as : List Value), EnvOk P E ∧ (∀ c v, E.den c = some v → 536870912 ≤ c ∧ c < 1073741824) ∧ Recs E.den as args ∧ Gives E f as σ (.bool true)
theorem lawful_of {P : Program} {E : Env} (hE : EnvOk P E) (hd : E.den = noDen) {f : Nat} {σ : Store} {args : List Value} (h : Gives E f args σ (.bool true)) : Lawful P f σ args :=
  ⟨E, args, hE, fun c v e => (by rw [hd] at e; cases e), Recs.same _, h⟩
theorem denL_dom {l : List Value} (c : Nat) (v : Value) (h : denL l c = some v) : 536870912 ≤ c ∧ c < 1073741824 := by
  unfold denL at h
  split at h
  · cases h
  · split at h
    · omega
    · cases h
/-- Over codes: 'l' are the numbers, 'as' the arguments told by codes. -/
theorem lawful_sym {P : Program} {E : Env} (hE : EnvOk P E) (l : List Value) (bs : List BRow) (us : List URow) (cs : List CRow) (hb : allP (BOk (denL l)) bs) (hu : allP (UOk (denL l)) us) (hc : allP (COk (denL l)) cs) {ss : List SRow} (hs : allP (SOk (denL l)) ss := by trivial) {f : Nat} {σ : Store} {as args : List Value}
    (hr : Recs (denL l) as args) (h : Gives (E.sym (denL l) bs us cs ss) f as σ (.bool true)) : Lawful P f σ args :=
  ⟨E.sym (denL l) bs us cs ss, as, sym_ok hE hb hu hc hs, denL_dom, hr, h⟩
def withCodes (D : Den) (ι : Inj) : Inj := fun c => match D c with
  | some v => some ⟨0, 0, 0, 0, some v⟩
  | none => ι c
theorem law_lawful {P : Program} {f : Nat} {args args' : List Value} {N n : Nat} {ι : Inj} {σ : Store} {W : World} (hA : At N W ι σ n W) (h : Lawful P f σ args) (ha : VRs ι args args') : Calls P f ⟨args'⟩ W fun e w' => e = .returned (.bool true) ∧ Below N W w' := by
  obtain ⟨E, as, hE, hdom, hrec, k, n', d, hc, hn⟩ := h
  obtain ⟨_, _, h2⟩ := callK_ok hE k _ _ _ _ _ _ _ hc
  have hle : ι.le (withCodes E.den ι) := fun i p e => by
    unfold withCodes
    cases hd : E.den i with
    | none => exact e
    | some v =>
      have := (hdom i v hd).2
      rw [hA.low i this] at e; cases e
  have hden : ∀ c v, E.den c = some v → ∃ p, withCodes E.den ι c = some p ∧ p.val = some v := fun c v e =>
    ⟨⟨0, 0, 0, 0, some v⟩, by unfold withCodes; rw [e], rfl⟩
  have hobj : ∀ i o, σ i = some o → ∃ p, withCodes E.den ι i = some p ∧ (Ph o p ∨ p.b < W.heap.size) ∧ ObjR N (withCodes E.den ι) o p W := fun i o e => by
    obtain ⟨p, g1, g2, g3⟩ := hA.rel.obj i o e
    exact ⟨p, hle _ _ g1, g2, g3.keep hle (.inr rfl)⟩
  have hsep : ∀ i j o o' p p', σ i = some o → σ j = some o' → withCodes E.den ι i = some p → withCodes E.den ι j = some p' → i ≠ j → o.w = true → Ph o p ∨ Ph o' p' ∨ p.b ≠ p'.b := fun i j o o' p p' e1 e2 f1 f2 hij hw => by
    obtain ⟨q, g1, _⟩ := hA.rel.obj i o e1
    obtain ⟨q', g1', _⟩ := hA.rel.obj j o' e2
    rw [hle _ _ g1] at f1; cases f1
    rw [hle _ _ g1'] at f2; cases f2
    exact hA.rel.sep i j o o' _ _ e1 e2 g1 g1' hij hw
  have hR : Rel E.den N W (withCodes E.den ι) σ W := ⟨hA.rel.below, hA.rel.size, hobj, hsep, hden⟩
  refine h2 N W σ _ W args' _ (Sub.refl _) hR (Recs.VRs hle hR.den hrec ha) (fun i _ hi => ?_) fun κ w' v' hend hv => ?_
  · unfold withCodes
    cases hd : E.den i with
    | none => exact hA.low i (by omega)
    | some v => have := (hdom i v hd).1; omega
  · cases hv
    exact ⟨rfl, hend.2.2.below⟩
end Go.Proofs.YtgajcmanompmcaaV
