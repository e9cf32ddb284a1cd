/- The first one of a number in a list: what cause_Find comes to, and what a search from the end comes to. -/
import Derived.Test.YtmdncojhnbbafaaOctet
import Derived.Test.YtmdncojhnbbafaaPAllx4
namespace Go.Proofs.Ytmdncojhnbbafaa.Fd25
open Go Go.RowKit Go.Proofs.YtmdncojhnbbafaaW.PrintWords Go.Proofs.Ytmdncojhnbbafaa.Bt Go.Proofs.Ytmdncojhnbbafaa.PAll Go.Proofs.Ytmdncojhnbbafaa.Oc
set_option linter.unusedVariables false
def FirstOf (l : List S25) (t : Int) (r : Int × ByteArray × Bool) : Prop :=
  (r = (0, (⟨#[]⟩ : ByteArray), false) ∧ ∀ j : Int, 0 ≤ j → j < l.length → (rd_T25 l j).f0 ≠ t) ∨
  ∃ a : Int, 0 ≤ a ∧ a < l.length ∧ (rd_T25 l a).f0 = t ∧ (∀ j : Int, 0 ≤ j → j < a → (rd_T25 l j).f0 ≠ t) ∧ r = ((rd_T25 l a).f0, (rd_T25 l a).f1, true)
theorem find_l0 (l : List S25) (t : Int) (hl : l.length ≤ 4611686018427387904) : ∀ (d k : Nat) (i : Int), (l.length : Int) - i = d → 0 ≤ i → d < k → (∀ j : Int, 0 ≤ j → j < i → (rd_T25 l j).f0 ≠ t) →
    ∃ r, cause_Find.l0 k t l (l.length : Int) i = some r ∧ FirstOf l t r := by
  intro d
  induction d with
  | zero =>
    intro k i hd hi hk h
    obtain ⟨k, rfl⟩ : ∃ m, k = m + 1 := ⟨k - 1, by omega⟩
    refine ⟨_, by simp only [cause_Find.l0]; rw [if_neg (by omega)], .inl ⟨rfl, fun j h0 h1 => h j h0 (by omega)⟩⟩
  | succ d ih =>
    intro k i hd hi hk h
    obtain ⟨k, rfl⟩ : ∃ m, k = m + 1 := ⟨k - 1, by omega⟩
    by_cases e : (rd_T25 l i).f0 = t
    · exact ⟨_, by simp only [cause_Find.l0]; rw [if_pos (by omega), if_pos hi, if_pos (by omega), if_pos e], .inr ⟨i, hi, by omega, e, h, rfl⟩⟩
    · obtain ⟨r, hr, hf⟩ := ih k (i + 1) (by omega) (by omega) (by omega) (fun j h0 h1 => by
        rcases Int.lt_or_le j i with hj | hj
        · exact h j h0 hj
        · have : j = i := by omega
          rw [this]
          exact e)
      refine ⟨r, ?_, hf⟩
      simp only [cause_Find.l0]
      rw [if_pos (by omega), if_pos hi, if_pos (by omega), if_neg e, w64 (by omega) (by omega)]
      exact hr
theorem find_eq (l : List S25) (t : Int) (hl : l.length ≤ 1000) (k : Nat) (hk : 1001 ≤ k) : ∃ r, cause_Find.f k l t = some r ∧ FirstOf l t r :=
  find_l0 l t (by omega) l.length k 0 (by omega) (by omega) (by omega) (fun j h0 h1 => by omega)
/-- Till place i, from the end: a is the first one behind it, or there is none. -/
def Back (l : List S25) (t i a : Int) : Prop :=
  (a = -1 ∧ ∀ j : Int, i < j → j < l.length → (rd_T25 l j).f0 ≠ t) ∨ (i < a ∧ a < l.length ∧ (rd_T25 l a).f0 = t ∧ ∀ j : Int, i < j → j < a → (rd_T25 l j).f0 ≠ t)
theorem back_yes {l : List S25} {t i a : Int} (h : Back l t i a) (hi : i < l.length) (e : (rd_T25 l i).f0 = t) : Back l t (i - 1) i :=
  .inr ⟨by omega, hi, e, fun j h0 h1 => by omega⟩
theorem back_no {l : List S25} {t i a : Int} (h : Back l t i a) (e : (rd_T25 l i).f0 ≠ t) : Back l t (i - 1) a := by
  have key : ∀ j : Int, i - 1 < j → (i < j → (rd_T25 l j).f0 ≠ t) → (rd_T25 l j).f0 ≠ t := by
    intro j h0 h1
    rcases Int.lt_or_le i j with hj | hj
    · exact h1 hj
    · have : j = i := by omega
      rw [this]
      exact e
  rcases h with ⟨h1, h2⟩ | ⟨h1, h2, h3, h4⟩
  · exact .inl ⟨h1, fun j h0 hl => key j h0 (fun h => h2 j h hl)⟩
  · exact .inr ⟨by omega, h2, h3, fun j h0 hl => key j h0 (fun h => h4 j h hl)⟩
/-- Both searches come to one place. -/
theorem both {l : List S25} {t a : Int} {r : Int × ByteArray × Bool} (hf : FirstOf l t r) (hb : Back l t (-1) a) :
    (r = (0, (⟨#[]⟩ : ByteArray), false) ∧ a = -1) ∨ (0 ≤ a ∧ a < l.length ∧ r = ((rd_T25 l a).f0, (rd_T25 l a).f1, true)) := by
  rcases hf with ⟨h1, h2⟩ | ⟨b, h0, h1, h2, h3, h4⟩
  · rcases hb with ⟨g1, g2⟩ | ⟨g1, g2, g3, g4⟩
    · exact .inl ⟨h1, g1⟩
    · exact absurd g3 (h2 a (by omega) g2)
  · rcases hb with ⟨g1, g2⟩ | ⟨g1, g2, g3, g4⟩
    · exact absurd h2 (g2 b (by omega) h1)
    · have e : a = b := by
        rcases Int.lt_trichotomy a b with h | h | h
        · exact absurd g3 (h3 a (by omega) h)
        · exact h
        · exact absurd h2 (g4 b (by omega) h)
      subst e
      exact .inr ⟨h0, h1, h4⟩
end Go.Proofs.Ytmdncojhnbbafaa.Fd25
