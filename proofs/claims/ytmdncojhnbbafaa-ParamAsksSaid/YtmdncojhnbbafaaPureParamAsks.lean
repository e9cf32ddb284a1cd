/- ParamAsks: requests, addresses say what they were made of; other parameters are none: for every parameter (30 bytes of its value), every number and address. No condition. -/
import Derived.Test.YtmdncojhnbbafaaLemParamAsks
import Derived.Test.YtmdncojhnbbafaaGoodParamAsks
namespace Go.Proofs.Ytmdncojhnbbafaa.Pure
open Go Go.RowKit Go.Proofs.Ytmdncojhnbbafaa.PAll Go.Proofs.YtmdncojhnbbafaaW.PrintWords Go.Proofs.Ytmdncojhnbbafaa.Bt Go.Proofs.Ytmdncojhnbbafaa.Oc Go.Proofs.Ytmdncojhnbbafaa.Rd Go.Proofs.Ytmdncojhnbbafaa.Pm
set_option linter.unusedVariables false
set_option linter.unusedSimpArgs false
theorem pk_awake (k : Nat) (h : 30 ≤ k) : crosswaylaw04_awake.f k = some true := at_rounds crosswaylaw04_awake.mono h (by decide +kernel)
theorem pk_j1 (t : Int) (v : List UInt8) (hv : v.length ≤ 30) (k : Nat) (hk : 50 ≤ k) : crosswaylaw04_ParamAsks.j1 k false t (mk v) = some true := by
  obtain ⟨k, rfl⟩ : ∃ m, k = m + 1 := ⟨k - 1, by omega⟩
  obtain ⟨a, hA, _⟩ := AsReq_eq t v (by omega) k (by omega)
  simp only [crosswaylaw04_ParamAsks.j1, Bool.false_eq_true, if_false, hA, kind_eq t v 12 k (by omega), Option.bind_some, size_mk, extract_mk, toList_mk]
  by_cases h12 : v.length = 12
  · have g4 : 4 ≤ v.length := by omega
    have g12 : (v.length : Int) = 12 := by omega
    have g8 : (8 : Int) ≤ (v.length : Int) := by omega
    have hr : isReq v ↔ (v.take 8).drop 4 = [0, 5, 0, 8] := ⟨fun h => h.2, fun h => ⟨h12, h⟩⟩
    by_cases hc : (v.take 8).drop 4 = [0, 5, 0, 8]
    · have hq : isReq v := hr.2 hc
      by_cases c1 : t = 49153
      · subst c1
        have ht : reqType 49153 := .inl rfl
        simp [ht, hq, g4, g12, g8, hc]
      · by_cases c2 : t = 49154
        · subst c2
          have ht : reqType 49154 := .inr (.inl rfl)
          simp [ht, hq, g4, g12, g8, hc]
        · by_cases c3 : t = 49156
          · subst c3
            have ht : reqType 49156 := .inr (.inr rfl)
            simp [ht, hq, g4, g12, g8, hc]
          · have ht : ¬ reqType t := by unfold reqType; omega
            simp [ht, c1, c2, c3]
    · have hq : ¬ isReq v := fun h => hc (hr.1 h)
      have hc2 : (List.drop 4 (List.take 8 v) == [0, 5, 0, 8]) = false := by simpa using hc
      simp only [hq, and_false, if_false, hc2, g4, if_true, g12, decide_true, g8]
      simp
  · have g12 : ¬ ((v.length : Int) = 12) := by omega
    have hq : ¬ isReq v := fun h => h12 h.1
    by_cases g4 : 4 ≤ v.length
    · simp [hq, g4, g12]
    · simp [hq, g4]
theorem pk_j0 (t : Int) (v : List UInt8) (hv : v.length ≤ 30) (k : Nat) (hk : 60 ≤ k) : crosswaylaw04_ParamAsks.j0 k false t (mk v) = some true := by
  obtain ⟨k, rfl⟩ : ∃ m, k = m + 1 := ⟨k - 1, by omega⟩
  have hj := pk_j1 t v hv k (by omega)
  simp only [crosswaylaw04_ParamAsks.j0, Bool.false_eq_true, if_false, kind_eq t v 4 k (by omega), AsAddr_eq t v k (by omega), Option.bind_some, U32_eq, toList_mk]
  by_cases c : t = 5
  · by_cases h4 : v.length = 4
    · have e : be 4 (num v) = v := by
        have := be_num v
        rwa [h4] at this
      simpa [c, h4, e] using hj
    · have g4 : ¬ ((v.length : Int) = 4) := by omega
      by_cases g : 4 ≤ v.length
      · simpa [c, h4, g, g4] using hj
      · simpa [c, h4, g] using hj
  · simpa [c] using hj
theorem ParamAsks : GoodParamAsks.Pure := by
  intro x id a hx hid ha
  obtain ⟨h0, h1⟩ := u32_bd hid
  obtain ⟨a0, a1⟩ := u32_bd ha
  obtain ⟨K, hK⟩ : ∃ K : Nat, K = 2000 := ⟨_, rfl⟩
  refine ⟨K, ?_⟩
  obtain ⟨t, s⟩ := x
  obtain ⟨l, rfl⟩ : ∃ l, s = mk l := ⟨_, eq_mk s⟩
  have em : mn (l.length : Int) 30 = ((min l.length 30 : Nat) : Int) := mn_nat l.length 30
  unfold crosswaylaw04_ParamAsks.f
  simp only
  rw [size_mk, em, if_pos (by omega), if_pos (by omega), extract_mk, Int.toNat_natCast, List.drop_zero]
  have hl : (l.take (min l.length 30)).length ≤ 30 := by rw [List.length_take]; omega
  generalize l.take (min l.length 30) = v at hl
  have hj := pk_j0 t v hl K (by omega)
  have et : wrap64 (49153 + (wrap64 (Int.tmod id 4))) = 49153 + id % 4 := by
    have e1 : wrap64 (id % 4) = id % 4 := w64 (by omega) (by omega)
    rw [tmod_pos h0, e1, w64 (by omega) (by omega)]
  rw [et]
  have hval : Valid (5, be 4 a) := ⟨by show (0 : Int) ≤ 5; omega, by show (5 : Int) < 65536; omega, by show (be 4 a).length ≤ 1000; rw [be_length]; omega⟩
  have hput : pput (5, be 4 a) = [0, 5, 0, 8] ++ be 4 a := by
    unfold pput
    rw [if_pos hval, addr_bytes _ (be_length 4 a)]
  have hR : param_Request.f (49153 + id % 4) id a = some (49153 + id % 4, mk (be 4 id ++ ([0, 5, 0, 8] ++ be 4 a))) := by
    unfold param_Request.f param_Addr.f
    simp only [U32_eq, Option.bind_some, Put_p, size_mk, hput, be_length]
    rw [if_pos (by simp [be_length]), mk_append]
  have d4 : ∀ r, (be 4 id ++ r).drop 4 = r := fun r => by
    have := List.drop_left (l₁ := be 4 id) (l₂ := r)
    rwa [be_length] at this
  have t4 : ∀ r, (be 4 id ++ r).take 4 = be 4 id := fun r => by
    have := List.take_left (l₁ := be 4 id) (l₂ := r)
    rwa [be_length] at this
  have hq : isReq (be 4 id ++ ([0, 5, 0, 8] ++ be 4 a)) := by
    refine ⟨by simp [be_length], ?_⟩
    rw [List.drop_take, d4]
    rfl
  obtain ⟨b, hA, hb⟩ := AsReq_eq (49153 + id % 4) (be 4 id ++ ([0, 5, 0, 8] ++ be 4 a)) (by simp [be_length]) K (by omega)
  have e8 : (be 4 id ++ ([0, 5, 0, 8] ++ be 4 a)).drop 8 = be 4 a := by
    rw [show 8 = 4 + 4 from rfl, ← List.drop_drop, d4]
    rfl
  have hb2 : b = a := by rw [hb hq, e8, num_be4 a a0 a1]
  rw [hR]
  simp only [Option.bind_some, hA, pk_awake K (by omega), if_true, t4, num_be4 id h0 h1, hb2]
  by_cases c : id % 4 = 2
  · have c1 : ¬ reqType (49153 + id % 4) := by unfold reqType; omega
    have c2 : ((49153 + id % 4 : Int) != 49155) = false := by simp; omega
    simp only [c1, false_and, if_false, c2]
    simpa using hj
  · have c1 : reqType (49153 + id % 4) := by unfold reqType; omega
    have c2 : ((49153 + id % 4 : Int) != 49155) = true := by simp; omega
    simp only [c1, hq, and_self, if_true, c2]
    simpa using hj
end Go.Proofs.Ytmdncojhnbbafaa.Pure
