-- Written by a program of this workplace (wip/mkprint2.py, over the kit's print) for this claim
import Derived.Test.YtnjknabighmedaaPTmx0
namespace Go.Proofs.Ytnjknabighmedaa.PTm
open Go.RowKit Go.Proofs.YtnjknabighmedaaW.PrintWords Go.Proofs.YtnjknabighmedaaW.PrintLast Go.Proofs.YtnjknabighmedaaW.PrintMore
attribute [local go_sem] max2_int min2_int max_two min_two max_three min_three max_four min_four   -- for this text's walks alone
set_option linter.unusedVariables false
set_option linter.unusedSimpArgs false

/-! ### crosswaylaw22_may: function 25 -/
mutual
def crosswaylaw22_may.j0 : Nat → Int → Int → Bool → Option (Bool)
  | 0, _, _, _ => none
  | k + 1, x1, x5, x26 => if x26 = true then (if x1 ≥ 3 then (some (decide (x1 ≤ 6))) else (some false)) else (if x5 = 4 then (crosswaylaw22_may.j1 k x1 x5 (x5 == 4)) else (crosswaylaw22_may.j1 k x1 x5 (x5 == 5)))
def crosswaylaw22_may.j1 : Nat → Int → Int → Bool → Option (Bool)
  | 0, _, _, _ => none
  | k + 1, x1, x5, x36 => if x36 = true then (some (decide (x1 ≥ 3))) else (if x5 = 7 then (some (decide (x1 ≥ 3))) else (if x5 = 8 then (if x1 = 5 then (some true) else (some (x1 == 7))) else (if x5 = 14 then (some (x1 == 7)) else (if x5 = 6 then (some (x1 != 0)) else (if x5 = 9 then (some (x1 != 0)) else (if x5 = 10 then (some (x1 != 0)) else (some false)))))))
end
def crosswaylaw22_may.f (k : Nat) (a0 : Int) (a1 : Int) : Option (Bool) := if a0 = 2 then (some (a1 == 1)) else (if a0 = 11 then (some (a1 == 2)) else (if a0 = 0 then (if a1 ≥ 3 then (some (decide (a1 ≤ 5))) else (some false)) else (if a0 = 3 then (some (decide (a1 ≥ 2))) else (if a0 = 193 then (crosswaylaw22_may.j0 k a1 a0 (a0 == 193)) else (if a0 = 128 then (crosswaylaw22_may.j0 k a1 a0 (a0 == 128)) else (crosswaylaw22_may.j0 k a1 a0 (a0 == 130)))))))
theorem crosswaylaw22_may.mono_l : ∀ k, (∀ y0 y1 y2, LeO (crosswaylaw22_may.j0 k y0 y1 y2) (crosswaylaw22_may.j0 (k + 1) y0 y1 y2)) ∧ (∀ y0 y1 y2, LeO (crosswaylaw22_may.j1 k y0 y1 y2) (crosswaylaw22_may.j1 (k + 1) y0 y1 y2))
  | 0 => ⟨fun _ _ _ r h => by simp [crosswaylaw22_may.j0] at h, fun _ _ _ r h => by simp [crosswaylaw22_may.j1] at h⟩
  | k + 1 => by
    obtain ⟨ih0, ih1⟩ := crosswaylaw22_may.mono_l k
    refine ⟨?_, ?_⟩
    · intro y0 y1 y2
      unfold crosswaylaw22_may.j0
      repeat' first
      | (with_reducible exact ih0 _ _ _)
      | (with_reducible exact ih1 _ _ _)
      | (with_reducible exact LeO.refl _)
      | (with_reducible exact LeO.none _)
      | (with_reducible refine LeO.ite ?_ ?_)
      | (with_reducible refine LeO.bind ?_ (fun _ => ?_))
      | exact ih0 _ _ _
      | exact ih1 _ _ _
      | exact LeO.none _
      | refine LeO.ite ?_ ?_
      | refine LeO.bind ?_ (fun _ => ?_)
    · intro y0 y1 y2
      unfold crosswaylaw22_may.j1
      repeat' first
      | (with_reducible exact ih0 _ _ _)
      | (with_reducible exact ih1 _ _ _)
      | (with_reducible exact LeO.refl _)
      | (with_reducible exact LeO.none _)
      | (with_reducible refine LeO.ite ?_ ?_)
      | (with_reducible refine LeO.bind ?_ (fun _ => ?_))
      | exact ih0 _ _ _
      | exact ih1 _ _ _
      | exact LeO.none _
      | refine LeO.ite ?_ ?_
      | refine LeO.bind ?_ (fun _ => ?_)
theorem crosswaylaw22_may.mono : ∀ a0 a1 k, LeO (crosswaylaw22_may.f k a0 a1) (crosswaylaw22_may.f (k + 1) a0 a1) := by
  intro a0 a1 k
  obtain ⟨ih0, ih1⟩ := crosswaylaw22_may.mono_l k
  unfold crosswaylaw22_may.f
  repeat' first
      | (with_reducible exact ih0 _ _ _)
      | (with_reducible exact ih1 _ _ _)
      | (with_reducible exact LeO.refl _)
      | (with_reducible exact LeO.none _)
      | (with_reducible refine LeO.ite ?_ ?_)
      | (with_reducible refine LeO.bind ?_ (fun _ => ?_))
      | exact ih0 _ _ _
      | exact ih1 _ _ _
      | exact LeO.none _
      | refine LeO.ite ?_ ?_
      | refine LeO.bind ?_ (fun _ => ?_)
set_option maxHeartbeats 8000000 in
set_option maxRecDepth 100000 in
theorem crosswaylaw22_may.calls (k : Nat) (a0 : Int) (a1 : Int) (r : Bool) (w : World) (h : crosswaylaw22_may.f k a0 a1 = some r) :
    Calls Try.prog 25 #[.int .i64 a0, .int .i64 a1] w fun e w' => e = .returned (.bool r) ∧ Drawn0 w w' := by
  have H : (if a0 = 2 then (some (a1 == 1)) else (if a0 = 11 then (some (a1 == 2)) else (if a0 = 0 then (if a1 ≥ 3 then (some (decide (a1 ≤ 5))) else (some false)) else (if a0 = 3 then (some (decide (a1 ≥ 2))) else (if a0 = 193 then (crosswaylaw22_may.j0 k a1 a0 (a0 == 193)) else (if a0 = 128 then (crosswaylaw22_may.j0 k a1 a0 (a0 == 128)) else (crosswaylaw22_may.j0 k a1 a0 (a0 == 130)))))))) = some r := h
  clear h
  by_cases c3 : a0 = 2
  · rw [if_pos c3] at H
    have c3b0 : (a0 == 2) = true := beq_iff_eq.mpr c3
    have c3b1 : (a0 != 2) = false := bne_eq_false_iff_eq.mpr c3
    clear c3
    obtain rfl := Option.some.inj H
    go_enter Try.func25, Try.ntmps25
    go_wp2
    go_ret
    exact ⟨by first | rfl | (simp; done) | (simp [*]; done), by repeat (first | exact Drawn0.refl _ | apply Drawn0.step)⟩
  · rw [if_neg c3] at H
    have c3b0 : (a0 == 2) = false := beq_eq_false_iff_ne.mpr c3
    have c3b1 : (a0 != 2) = true := bne_iff_ne.mpr c3
    by_cases c4 : a0 = 11
    · rw [if_pos c4] at H
      have c4b0 : (a0 == 11) = true := beq_iff_eq.mpr c4
      have c4b1 : (a0 != 11) = false := bne_eq_false_iff_eq.mpr c4
      clear c4
      obtain rfl := Option.some.inj H
      go_enter Try.func25, Try.ntmps25
      go_wp2
      go_ret
      exact ⟨by first | rfl | (simp; done) | (simp [*]; done), by repeat (first | exact Drawn0.refl _ | apply Drawn0.step)⟩
    · rw [if_neg c4] at H
      have c4b0 : (a0 == 11) = false := beq_eq_false_iff_ne.mpr c4
      have c4b1 : (a0 != 11) = true := bne_iff_ne.mpr c4
      by_cases c5 : a0 = 0
      · rw [if_pos c5] at H
        have c5b0 : (a0 == 0) = true := beq_iff_eq.mpr c5
        have c5b1 : (a0 != 0) = false := bne_eq_false_iff_eq.mpr c5
        clear c5
        by_cases c6 : a1 ≥ 3
        · rw [if_pos c6] at H
          have c6b0 : decide (3 ≤ a1) = true := decide_eq_true c6
          clear c6
          obtain rfl := Option.some.inj H
          go_enter Try.func25, Try.ntmps25
          go_wp2
          go_ret
          exact ⟨by first | rfl | (simp; done) | (simp [*]; done), by repeat (first | exact Drawn0.refl _ | apply Drawn0.step)⟩
        · rw [if_neg c6] at H
          have c6b0 : decide (3 ≤ a1) = false := decide_eq_false c6
          clear c6
          obtain rfl := Option.some.inj H
          go_enter Try.func25, Try.ntmps25
          go_wp2
          go_ret
          exact ⟨by first | rfl | (simp; done) | (simp [*]; done), by repeat (first | exact Drawn0.refl _ | apply Drawn0.step)⟩
      · rw [if_neg c5] at H
        have c5b0 : (a0 == 0) = false := beq_eq_false_iff_ne.mpr c5
        have c5b1 : (a0 != 0) = true := bne_iff_ne.mpr c5
        by_cases c7 : a0 = 3
        · rw [if_pos c7] at H
          have c7b0 : (a0 == 3) = true := beq_iff_eq.mpr c7
          have c7b1 : (a0 != 3) = false := bne_eq_false_iff_eq.mpr c7
          clear c7
          obtain rfl := Option.some.inj H
          go_enter Try.func25, Try.ntmps25
          go_wp2
          go_ret
          exact ⟨by first | rfl | (simp; done) | (simp [*]; done), by repeat (first | exact Drawn0.refl _ | apply Drawn0.step)⟩
        · rw [if_neg c7] at H
          have c7b0 : (a0 == 3) = false := beq_eq_false_iff_ne.mpr c7
          have c7b1 : (a0 != 3) = true := bne_iff_ne.mpr c7
          have HC8 := Aside0.mk H
          clear H
          go_enter Try.func25, Try.ntmps25
          go_upto_if 26 with (fail)
          go_cut [26] (fun v26 wc => ∃ (kq : Nat) (x26_7 : Bool), v26 = .bool x26_7 ∧ Aside0 (crosswaylaw22_may.j0 kq a1 a0 x26_7 = some r) ∧ Aside0 (kq ≤ k) ∧ Drawn0 w wc)
          case first =>
            have H := HC8.out
            clear HC8
            by_cases c9 : a0 = 193
            · rw [if_pos c9] at H
              have c9b0 : (a0 == 193) = true := beq_iff_eq.mpr c9
              have c9b1 : (a0 != 193) = false := bne_eq_false_iff_eq.mpr c9
              clear c9
              (first | rw [c9b0] | (simp only [i64_w, i32_w]; rw [c9b0]) | skip)
              have H' := Aside0.mk H
              clear H
              go_wp2
              go_meet
              case rel => exact ⟨_, ((a0 == 193)), (by first | rfl | (simp; done) | (simp [*]; done)), H', ⟨by first | omega | exact Nat.le_refl _⟩, by repeat (first | exact Drawn0.refl _ | apply Drawn0.step)⟩
            · rw [if_neg c9] at H
              have c9b0 : (a0 == 193) = false := beq_eq_false_iff_ne.mpr c9
              have c9b1 : (a0 != 193) = true := bne_iff_ne.mpr c9
              (first | rw [c9b0] | (simp only [i64_w, i32_w]; rw [c9b0]) | skip)
              by_cases c10 : a0 = 128
              · rw [if_pos c10] at H
                have c10b0 : (a0 == 128) = true := beq_iff_eq.mpr c10
                have c10b1 : (a0 != 128) = false := bne_eq_false_iff_eq.mpr c10
                clear c10
                have H' := Aside0.mk H
                clear H
                go_wp2
                go_meet
                case rel => exact ⟨_, ((a0 == 128)), (by first | rfl | (simp; done) | (simp [*]; done)), H', ⟨by first | omega | exact Nat.le_refl _⟩, by repeat (first | exact Drawn0.refl _ | apply Drawn0.step)⟩
              · rw [if_neg c10] at H
                have c10b0 : (a0 == 128) = false := beq_eq_false_iff_ne.mpr c10
                have c10b1 : (a0 != 128) = true := bne_iff_ne.mpr c10
                have H' := Aside0.mk H
                clear H
                go_wp2
                go_meet
                case rel => exact ⟨_, ((a0 == 130)), (by first | rfl | (simp; done) | (simp [*]; done)), H', ⟨by first | omega | exact Nat.le_refl _⟩, by repeat (first | exact Drawn0.refl _ | apply Drawn0.step)⟩
          case rest =>
            clear HC8
            try clear c1
            try clear c2
            try clear p2
            try clear c3
            try clear c3b0
            try clear c3b1
            try clear c4
            try clear c4b0
            try clear c4b1
            try clear c5
            try clear c5b0
            try clear c5b1
            try clear c6
            try clear c6b0
            try clear c7
            try clear c7b0
            try clear c7b1
            try clear c9
            try clear c9b0
            try clear c9b1
            try clear c10
            try clear c10b0
            try clear c10b1
            obtain ⟨kq, x26_7, rfl, HA, HJ7, ⟨mc7, rfl⟩⟩ := hcut
            cases kq with
            | zero => exact absurd HA.out (by simp [crosswaylaw22_may.j0])
            | succ kj7 =>
              have H := HA.out
              clear HA
              simp only [crosswaylaw22_may.j0] at H
              by_cases c11 : x26_7 = true
              · subst c11
                have H1 : (if a1 ≥ 3 then (some (decide (a1 ≤ 6))) else (some false)) = some r := by rw [if_pos rfl] at H; exact H
                clear H
                have H := H1
                clear H1
                by_cases c12 : a1 ≥ 3
                · rw [if_pos c12] at H
                  have c12b0 : decide (3 ≤ a1) = true := decide_eq_true c12
                  clear c12
                  obtain rfl := Option.some.inj H
                  go_wp2
                  go_ret
                  exact ⟨by first | rfl | (simp; done) | (simp [*]; done), by repeat (first | exact Drawn0.refl _ | apply Drawn0.step)⟩
                · rw [if_neg c12] at H
                  have c12b0 : decide (3 ≤ a1) = false := decide_eq_false c12
                  clear c12
                  obtain rfl := Option.some.inj H
                  go_wp2
                  go_ret
                  exact ⟨by first | rfl | (simp; done) | (simp [*]; done), by repeat (first | exact Drawn0.refl _ | apply Drawn0.step)⟩
              · replace c11 := Bool.eq_false_iff.mpr c11
                subst c11
                have H1 : (if a0 = 4 then (crosswaylaw22_may.j1 kj7 a1 a0 (a0 == 4)) else (crosswaylaw22_may.j1 kj7 a1 a0 (a0 == 5))) = some r := by rw [if_neg (show ¬ (false = true) by decide)] at H; exact H
                clear H
                have H := H1
                clear H1
                have HC13 := Aside0.mk H
                clear H
                go_upto_if 36 with (fail)
                go_cut [36] (fun v36 wc => ∃ (kq : Nat) (x36_12 : Bool), v36 = .bool x36_12 ∧ Aside0 (crosswaylaw22_may.j1 kq a1 a0 x36_12 = some r) ∧ Aside0 (kq ≤ kj7) ∧ Drawn0 w wc)
                case first =>
                  have H := HC13.out
                  clear HC13
                  by_cases c14 : a0 = 4
                  · rw [if_pos c14] at H
                    have c14b0 : (a0 == 4) = true := beq_iff_eq.mpr c14
                    have c14b1 : (a0 != 4) = false := bne_eq_false_iff_eq.mpr c14
                    clear c14
                    (first | rw [c14b0] | (simp only [i64_w, i32_w]; rw [c14b0]) | skip)
                    have H' := Aside0.mk H
                    clear H
                    go_wp2
                    go_meet
                    case rel => exact ⟨_, ((a0 == 4)), (by first | rfl | (simp; done) | (simp [*]; done)), H', ⟨by have := HJ7.out; first | omega | exact Nat.le_refl _⟩, by repeat (first | exact Drawn0.refl _ | apply Drawn0.step)⟩
                  · rw [if_neg c14] at H
                    have c14b0 : (a0 == 4) = false := beq_eq_false_iff_ne.mpr c14
                    have c14b1 : (a0 != 4) = true := bne_iff_ne.mpr c14
                    (first | rw [c14b0] | (simp only [i64_w, i32_w]; rw [c14b0]) | skip)
                    have H' := Aside0.mk H
                    clear H
                    go_wp2
                    go_meet
                    case rel => exact ⟨_, ((a0 == 5)), (by first | rfl | (simp; done) | (simp [*]; done)), H', ⟨by have := HJ7.out; first | omega | exact Nat.le_refl _⟩, by repeat (first | exact Drawn0.refl _ | apply Drawn0.step)⟩
                case rest =>
                  clear HC13
                  try clear c1
                  try clear c2
                  try clear p2
                  try clear c3
                  try clear c3b0
                  try clear c3b1
                  try clear c4
                  try clear c4b0
                  try clear c4b1
                  try clear c5
                  try clear c5b0
                  try clear c5b1
                  try clear c6
                  try clear c6b0
                  try clear c7
                  try clear c7b0
                  try clear c7b1
                  try clear c9
                  try clear c9b0
                  try clear c9b1
                  try clear c10
                  try clear c10b0
                  try clear c10b1
                  try clear c11
                  try clear c12
                  try clear c12b0
                  try clear c14
                  try clear c14b0
                  try clear c14b1
                  try clear p2
                  obtain ⟨kq, x36_12, rfl, HA, HJ12, ⟨mc12, rfl⟩⟩ := hcut
                  cases kq with
                  | zero => exact absurd HA.out (by simp [crosswaylaw22_may.j1])
                  | succ kj12 =>
                    have H := HA.out
                    clear HA
                    simp only [crosswaylaw22_may.j1] at H
                    by_cases c15 : x36_12 = true
                    · subst c15
                      have H1 : (some (decide (a1 ≥ 3))) = some r := by rw [if_pos rfl] at H; exact H
                      clear H
                      have H := H1
                      clear H1
                      obtain rfl := Option.some.inj H
                      go_wp2
                      go_ret
                      exact ⟨by first | rfl | (simp; done) | (simp [*]; done), by repeat (first | exact Drawn0.refl _ | apply Drawn0.step)⟩
                    · replace c15 := Bool.eq_false_iff.mpr c15
                      subst c15
                      have H1 : (if a0 = 7 then (some (decide (a1 ≥ 3))) else (if a0 = 8 then (if a1 = 5 then (some true) else (some (a1 == 7))) else (if a0 = 14 then (some (a1 == 7)) else (if a0 = 6 then (some (a1 != 0)) else (if a0 = 9 then (some (a1 != 0)) else (if a0 = 10 then (some (a1 != 0)) else (some false))))))) = some r := by rw [if_neg (show ¬ (false = true) by decide)] at H; exact H
                      clear H
                      have H := H1
                      clear H1
                      by_cases c16 : a0 = 7
                      · rw [if_pos c16] at H
                        have c16b0 : (a0 == 7) = true := beq_iff_eq.mpr c16
                        have c16b1 : (a0 != 7) = false := bne_eq_false_iff_eq.mpr c16
                        clear c16
                        obtain rfl := Option.some.inj H
                        go_wp2
                        go_ret
                        exact ⟨by first | rfl | (simp; done) | (simp [*]; done), by repeat (first | exact Drawn0.refl _ | apply Drawn0.step)⟩
                      · rw [if_neg c16] at H
                        have c16b0 : (a0 == 7) = false := beq_eq_false_iff_ne.mpr c16
                        have c16b1 : (a0 != 7) = true := bne_iff_ne.mpr c16
                        by_cases c17 : a0 = 8
                        · rw [if_pos c17] at H
                          have c17b0 : (a0 == 8) = true := beq_iff_eq.mpr c17
                          have c17b1 : (a0 != 8) = false := bne_eq_false_iff_eq.mpr c17
                          clear c17
                          by_cases c18 : a1 = 5
                          · rw [if_pos c18] at H
                            have c18b0 : (a1 == 5) = true := beq_iff_eq.mpr c18
                            have c18b1 : (a1 != 5) = false := bne_eq_false_iff_eq.mpr c18
                            clear c18
                            obtain rfl := Option.some.inj H
                            go_wp2
                            go_ret
                            exact ⟨by first | rfl | (simp; done) | (simp [*]; done), by repeat (first | exact Drawn0.refl _ | apply Drawn0.step)⟩
                          · rw [if_neg c18] at H
                            have c18b0 : (a1 == 5) = false := beq_eq_false_iff_ne.mpr c18
                            have c18b1 : (a1 != 5) = true := bne_iff_ne.mpr c18
                            obtain rfl := Option.some.inj H
                            go_wp2
                            go_ret
                            exact ⟨by first | rfl | (simp; done) | (simp [*]; done), by repeat (first | exact Drawn0.refl _ | apply Drawn0.step)⟩
                        · rw [if_neg c17] at H
                          have c17b0 : (a0 == 8) = false := beq_eq_false_iff_ne.mpr c17
                          have c17b1 : (a0 != 8) = true := bne_iff_ne.mpr c17
                          by_cases c19 : a0 = 14
                          · rw [if_pos c19] at H
                            have c19b0 : (a0 == 14) = true := beq_iff_eq.mpr c19
                            have c19b1 : (a0 != 14) = false := bne_eq_false_iff_eq.mpr c19
                            clear c19
                            obtain rfl := Option.some.inj H
                            go_wp2
                            go_ret
                            exact ⟨by first | rfl | (simp; done) | (simp [*]; done), by repeat (first | exact Drawn0.refl _ | apply Drawn0.step)⟩
                          · rw [if_neg c19] at H
                            have c19b0 : (a0 == 14) = false := beq_eq_false_iff_ne.mpr c19
                            have c19b1 : (a0 != 14) = true := bne_iff_ne.mpr c19
                            by_cases c20 : a0 = 6
                            · rw [if_pos c20] at H
                              have c20b0 : (a0 == 6) = true := beq_iff_eq.mpr c20
                              have c20b1 : (a0 != 6) = false := bne_eq_false_iff_eq.mpr c20
                              clear c20
                              obtain rfl := Option.some.inj H
                              go_wp2
                              go_ret
                              exact ⟨by first | rfl | (simp; done) | (simp [*]; done), by repeat (first | exact Drawn0.refl _ | apply Drawn0.step)⟩
                            · rw [if_neg c20] at H
                              have c20b0 : (a0 == 6) = false := beq_eq_false_iff_ne.mpr c20
                              have c20b1 : (a0 != 6) = true := bne_iff_ne.mpr c20
                              by_cases c21 : a0 = 9
                              · rw [if_pos c21] at H
                                have c21b0 : (a0 == 9) = true := beq_iff_eq.mpr c21
                                have c21b1 : (a0 != 9) = false := bne_eq_false_iff_eq.mpr c21
                                clear c21
                                obtain rfl := Option.some.inj H
                                go_wp2
                                go_ret
                                exact ⟨by first | rfl | (simp; done) | (simp [*]; done), by repeat (first | exact Drawn0.refl _ | apply Drawn0.step)⟩
                              · rw [if_neg c21] at H
                                have c21b0 : (a0 == 9) = false := beq_eq_false_iff_ne.mpr c21
                                have c21b1 : (a0 != 9) = true := bne_iff_ne.mpr c21
                                by_cases c22 : a0 = 10
                                · rw [if_pos c22] at H
                                  have c22b0 : (a0 == 10) = true := beq_iff_eq.mpr c22
                                  have c22b1 : (a0 != 10) = false := bne_eq_false_iff_eq.mpr c22
                                  clear c22
                                  obtain rfl := Option.some.inj H
                                  go_wp2
                                  go_ret
                                  exact ⟨by first | rfl | (simp; done) | (simp [*]; done), by repeat (first | exact Drawn0.refl _ | apply Drawn0.step)⟩
                                · rw [if_neg c22] at H
                                  have c22b0 : (a0 == 10) = false := beq_eq_false_iff_ne.mpr c22
                                  have c22b1 : (a0 != 10) = true := bne_iff_ne.mpr c22
                                  obtain rfl := Option.some.inj H
                                  go_wp2
                                  go_ret
                                  exact ⟨by first | rfl | (simp; done) | (simp [*]; done), by repeat (first | exact Drawn0.refl _ | apply Drawn0.step)⟩

end Go.Proofs.Ytnjknabighmedaa.PTm
