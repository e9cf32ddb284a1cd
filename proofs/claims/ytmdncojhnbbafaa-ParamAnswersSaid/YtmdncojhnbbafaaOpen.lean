/- From data to the kinds of the print: whatever reads as data of a type is of the type's kind. Composed as the kinds are. -/
import Derived.Test.YtmdncojhnbbafaaWWords
import Derived.WalkKit
import Derived.ProofKit
import Derived.OpenShut
import Derived.SizedLaws
namespace Go.Proofs.Ytmdncojhnbbafaa.Op
open Go Go.RowKit Go.ChangeShapes Go.WideShapes Go.Proofs.YtmdncojhnbbafaaW.PrintWords
set_option linter.unusedVariables false
set_option linter.unusedSimpArgs false
theorem ex_list {α : Type} {R : Nat → α → Prop} (n : Nat) (h : ∀ i, i < n → ∃ a, R i a) : ∃ xs : List α, xs.length = n ∧ ∀ i a, xs[i]? = some a → R i a := by
  induction n with
  | zero => exact ⟨[], rfl, fun i a h => by simp at h⟩
  | succ n ih =>
    obtain ⟨xs, hl, hx⟩ := ih (fun i hi => h i (by omega))
    obtain ⟨a, ha⟩ := h n (by omega)
    refine ⟨xs ++ [a], by simp [hl], fun i b hb => ?_⟩
    rcases Nat.lt_or_ge i xs.length with hi | hi
    · rw [List.getElem?_append_left hi] at hb
      exact hx i b hb
    · have hi' : i = n := by
        have := (List.getElem?_eq_some_iff.1 hb).1
        rw [List.length_append, List.length_singleton] at this
        omega
      subst hi'
      rw [List.getElem?_append_right hi, hl] at hb
      simp at hb
      subst hb
      exact ha
/-- Whatever reads as data of the type is of the kind, and is good. -/
def Opens {α : Type} (P : Program) (w : World) (t : TypeId) (d : Kd α) (good : α → Prop) : Prop :=
  ∀ {H : Type} {enc : TypeId × Value → H} {base : Nat} {spare : Nat → Bool} {held : Bool} {fuel : Nat} {cs : List Value} {x : DataW H × List MemPlace},
    DataW.trod enc P w base spare held fuel t cs = some x → ∃ a, d.K w a cs ∧ good a
section
variable {P : Program} {w : World} {t : TypeId}
theorem op_int {k : IntKind} (ht : P.underlying t = some (.int k)) : Opens P w t (Kd.int k) (fun n => (Lit.int k n).wf = true) := by
  intro H enc base spare held fuel cs x h
  obtain ⟨n, rfl, _, hw⟩ := DataW.trod_int ht h
  exact ⟨n, rfl, hw⟩
theorem op_bool (ht : P.underlying t = some .bool) : Opens P w t Kd.bool (fun _ => True) := by
  intro H enc base spare held fuel cs x h
  obtain ⟨b, rfl, _⟩ := DataW.trod_bool ht h
  exact ⟨b, rfl, trivial⟩
theorem op_string (ht : P.underlying t = some .string) : Opens P w t Kd.string (fun s => s.size ≤ 9223372036854775807) := by
  intro H enc base spare held fuel cs x h
  obtain ⟨s, rfl, _, hs⟩ := DataW.trod_string ht h
  exact ⟨s, rfl, hs⟩
theorem op_slice {α : Type} {d : Kd α} {good : α → Prop} {e : TypeId} (ht : P.underlying t = some (.slice e)) (hsz : P.cellsOf e = d.sz) (ho : Opens P w e d good) :
    Opens P w t (Kd.slice e d) (fun l => l.length ≤ 9223372036854775807 ∧ ∀ x ∈ l, good x) := by
  intro H enc base spare held fuel cs x h
  rcases DataW.trod_slice ht h with ⟨rfl, _⟩ | ⟨a, len, cap, elems, rest, n, _, rfl, _, _, hl, hm, hlen, hel, _, _⟩
  · refine ⟨[], ⟨none, 0, rfl, Nat.le_refl _, rfl, by simp, fun h => absurd h (by simp)⟩, by simp, fun x h => by cases h⟩
  · have hm' : cap ≤ 9223372036854775807 := hm
    obtain ⟨xs, hxl, hxs⟩ := ex_list (R := fun i (b : α) => good b ∧ ∃ c, c.length = d.sz ∧ d.K w b c ∧ ∀ q u, c[q]? = some u → w.cell? (a.add (i * d.sz + q)) = some u) len (fun i hi => by
      have hi2 := hel i hi
      have hs : elems[i]? = some (elems[i]'(by omega)) := List.getElem?_eq_getElem (by omega)
      rw [hs] at hi2
      obtain ⟨c, hc, ht2⟩ := Option.bind_eq_some_iff.1 hi2
      obtain ⟨b, hK, hg⟩ := ho ht2
      obtain ⟨_, hcl, hcc⟩ := World.cells?_some hc
      refine ⟨b, hg, c, d.K_len hK, hK, fun q u hq => ?_⟩
      have hq' : q < P.cellsOf e := by
        have := (List.getElem?_eq_some_iff.1 hq).1
        rw [d.K_len hK] at this
        omega
      have := hcc q hq'
      rw [hq] at this
      rw [hsz] at this
      have ea : (a.add (i * d.sz)).add q = a.add (i * d.sz + q) := by
        unfold Addr.add
        by_cases h1 : i * d.sz = 0 <;> by_cases h2 : q = 0 <;> simp [h1, h2, Nat.add_assoc]
      rwa [ea] at this)
    subst hxl
    refine ⟨xs, ⟨some a, cap, rfl, hl, rfl, by omega, fun _ => ⟨a, rfl, fun j p hp => (hxs j p hp).2⟩⟩, by omega, fun b hb => ?_⟩
    obtain ⟨i, hi, rfl⟩ := List.getElem_of_mem hb
    exact (hxs i _ (List.getElem?_eq_getElem hi)).1
/-- A field of what was read. -/
theorem op_field {H : Type} {enc : TypeId × Value → H} {base : Nat} {spare : Nat → Bool} {held : Bool} {n : Nat} {cs : List Value} {xs : List (DataW H × List MemPlace)} {fs : Array Field} (hl : xs.length = fs.size)
    (hf : ∀ (i : Nat) (f : Field), fs[i]? = some f → DataW.trod enc P w base spare held n f.type ((cs.drop f.offset).take (P.cellsOf f.type)) = xs[i]?) (i : Nat) (f : Field) (hi : fs[i]? = some f)
    {α : Type} {d : Kd α} {good : α → Prop} (ho : Opens P w f.type d good) : ∃ a, d.K w a ((cs.drop f.offset).take (P.cellsOf f.type)) ∧ good a := by
  have h := hf i f hi
  have hlt : i < xs.length := by
    rw [hl]
    exact (Array.getElem?_eq_some_iff.1 hi).1
  rw [List.getElem?_eq_getElem hlt] at h
  exact ho h
theorem okWide_array {r : Reach} {base : Nat} {v : Value} {n : Nat} {e : TypeId} (ht : P.underlying t = some (.array n e)) (h : Value.okWide P w r base t v) : ∃ cs, v = .agg cs ∧ cs.size = P.cellsOf t := by
  simp only [Value.okWide, ht] at h
  obtain ⟨cs, h1, h2, _⟩ := h
  exact ⟨cs, h1, h2⟩
theorem op_elem {H : Type} {enc : TypeId × Value → H} {base : Nat} {spare : Nat → Bool} {held : Bool} {n m : Nat} {e : TypeId} {cs : List Value} {xs : List (DataW H × List MemPlace)} (hl : xs.length = m)
    (hf : ∀ (i : Nat), i < m → DataW.trod enc P w base spare held n e ((cs.drop (i * P.cellsOf e)).take (P.cellsOf e)) = xs[i]?) (i : Nat) (hi : i < m)
    {α : Type} {d : Kd α} {good : α → Prop} (ho : Opens P w e d good) : ∃ a, d.K w a ((cs.drop (i * P.cellsOf e)).take (P.cellsOf e)) ∧ good a := by
  have h := hf i hi
  rw [List.getElem?_eq_getElem (show i < xs.length by omega)] at h
  exact ho h
theorem pair_at {α β : Type} {a : Kd α} {b : Kd β} {x : α} {y : β} {cs : List Value} (h0 : a.K w x (cs.take a.sz)) (h1 : b.K w y (cs.drop a.sz)) : (Kd.pair a b).K w (x, y) cs :=
  ⟨cs.take a.sz, cs.drop a.sz, (List.take_append_drop _ _).symm, h0, h1⟩
end
end Go.Proofs.Ytmdncojhnbbafaa.Op
