/- CauseFinds: the first cause of a number is found, and those that are made by themselves say what they must: for every list of causes (of which 20 are looked at) and every numbers. No condition. -/
import Derived.Test.YtmdncojhnbbafaaFindC
import Derived.Test.YtmdncojhnbbafaaGoodCauseFinds
namespace Go.Proofs.Ytmdncojhnbbafaa.Pure
open Go Go.RowKit Go.Proofs.Ytmdncojhnbbafaa.PAll Go.Proofs.YtmdncojhnbbafaaW.PrintWords Go.Proofs.Ytmdncojhnbbafaa.Bt Go.Proofs.Ytmdncojhnbbafaa.Oc Go.Proofs.Ytmdncojhnbbafaa.Fd25
theorem cf_awake : crosswaylaw05_awake.f = some true := by decide +kernel
theorem cf_made (n : Int) (h0 : 0 ≤ n) (h1 : n < 4294967296) (k : Nat) (hk : 10 ≤ k) : crosswaylaw05_CauseFinds.j1 k n false = some true := by
  obtain ⟨k, rfl⟩ : ∃ m, k = m + 1 := ⟨k - 1, by omega⟩
  have p4 := Put_eq 4 k n (by omega) (by omega) h0 (by omega)
  simp only [Int.cast_ofNat_Int] at p4
  have e : Go.bits .and .u32 n 65535 = n % 65536 := and_u32 n 65535 16 rfl (by omega)
  simp only [crosswaylaw05_CauseFinds.j1]
  rw [wu64, Int.emod_eq_of_lt h0 (by omega), p4, e, w64 (by omega) (by omega)]
  unfold cause_NoData.f cause_Stale.f cause_Stream.f
  rw [U32_eq, U16_eq, U16_eq]
  simp only [Option.bind_some, size_mk, be_length, mk_append]
  have e2 : (mk (be 4 n)).extract 2 4 = mk (be 2 n) := by
    rw [extract_mk, be4, be2]
    rfl
  have e3 : be 2 (n % 65536) = be 2 n := by
    rw [be2, be2, show n % 65536 / 256 % 256 = n / 256 % 256 by omega, show n % 65536 % 256 = n % 256 by omega]
  have e4 : mk (be 2 n) ++ (⟨#[0, 0]⟩ : ByteArray) = mk (be 2 n ++ be 2 0) := mk_append _ _
  rw [e2, e3, e4, size_mk, be_length]
  simp [toList_mk]
theorem cf_loop (l : List S25) (t n : Int) (h0 : 0 ≤ n) (h1 : n < 4294967296) (r : Int × ByteArray × Bool) (hr : FirstOf l t r) (hl : l.length ≤ 1000) (hsame : ∀ k, 1001 ≤ k → cause_Find.f k l t = some r) : ∀ (d k : Nat) (i a : Int), i + 1 = d → i < l.length → d + 1010 ≤ k → Back l t i a →
    crosswaylaw05_CauseFinds.l0 k t n l r.2.2 a i r.1 r.2.1 = some true := by
  intro d
  induction d with
  | zero =>
    intro k i a hd hi hk hb
    obtain ⟨k, rfl⟩ : ∃ m, k = m + 1 := ⟨k - 1, by omega⟩
    have e : i = -1 := by omega
    subst e
    have hm := cf_made n h0 h1 k (by omega)
    have hh : cause_Has.f k l t = some r.2.2 := by
      unfold cause_Has.f
      rw [hsame k (by omega)]
      rfl
    simp only [crosswaylaw05_CauseFinds.l0]
    rw [if_neg (by omega), cf_awake, hh]
    simp only [Option.bind_some, if_true]
    rcases both hr hb with ⟨rfl, rfl⟩ | ⟨g0, g1, rfl⟩
    · simpa using hm
    · have e : decide (a ≥ 0) = true := decide_eq_true g0
      simpa [e, g0, g1] using hm
  | succ d ih =>
    intro k i a hd hi hk hb
    obtain ⟨k, rfl⟩ : ∃ m, k = m + 1 := ⟨k - 1, by omega⟩
    simp only [crosswaylaw05_CauseFinds.l0]
    rw [if_pos (by omega), if_pos (by omega), if_pos hi, w64 (by omega) (by omega)]
    by_cases e : (rd_T25 l i).f0 = t
    · rw [if_pos e]
      exact ih k (i - 1) i (by omega) (by omega) (by omega) (back_yes hb hi e)
    · rw [if_neg e]
      exact ih k (i - 1) a (by omega) (by omega) (by omega) (back_no hb e)
theorem CauseFinds : GoodCauseFinds.Pure := by
  intro l t n hg ht hn
  obtain ⟨h0, h1⟩ := u32_bd hn
  refine ⟨1100, ?_⟩
  have em : mn (l.length : Int) 20 = ((min l.length 20 : Nat) : Int) := mn_nat l.length 20
  unfold crosswaylaw05_CauseFinds.f
  rw [em, if_pos (by omega), if_pos (by omega), Int.toNat_natCast]
  simp only [Option.bind_some]
  have hle : (l.take (min l.length 20)).length ≤ 20 := by rw [List.length_take]; omega
  generalize l.take (min l.length 20) = m at hle
  obtain ⟨r, hr, hf⟩ := find_eq m t (by omega) 1001 (by omega)
  have hsame : ∀ k, 1001 ≤ k → cause_Find.f k m t = some r := fun k hk => at_rounds (cause_Find.mono m t) hk hr
  rw [hsame 1100 (by omega)]
  simp only [Option.bind_some]
  rw [w64 (by omega) (by omega)]
  exact cf_loop m t n h0 h1 r hf (by omega) hsame m.length 1100 _ _ (by omega) (by omega) (by omega) (.inl ⟨rfl, fun j h0 h1 => by omega⟩)
end Go.Proofs.Ytmdncojhnbbafaa.Pure
