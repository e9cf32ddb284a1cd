-- Written by a program of this workplace (wip/mkprint2.py, over the kit's print) for this claim
import Derived.Test.YtnjknabighmedaaPTmx0
import Derived.Test.YtnjknabighmedaaPTmx1
import Derived.Test.YtnjknabighmedaaPTmx2
import Derived.Test.YtnjknabighmedaaPTmx5
namespace Go.Proofs.Ytnjknabighmedaa.PTm
open Go.RowKit Go.Proofs.YtnjknabighmedaaW.PrintWords Go.Proofs.YtnjknabighmedaaW.PrintLast Go.Proofs.YtnjknabighmedaaW.PrintMore
attribute [local go_sem] max2_int min2_int max_two min_two max_three min_three max_four min_four   -- for this text's walks alone
set_option linter.unusedVariables false
set_option linter.unusedSimpArgs false

/-! ### crosswaylaw22_TagsMay: function 6 -/
def crosswaylaw22_TagsMay.l0 : Nat → Int → Int → Option (Bool)
  | 0, _, _ => none
  | k + 1, x0, x3 => if x3 ≤ 7 then ((tags_May.f k (Go.bits .and .i64 x0 255) 0 0 0 0 0 (⟨#[]⟩ : ByteArray) 0 0 0 0 ([] : List (S143)) ([] : List (S145)) ([] : List (S163)) ([] : List Int) x3).bind fun t114 => ((crosswaylaw22_may.f k (Go.bits .and .i64 x0 255) x3).bind fun t115 => (if (t114 != t115) = true then (some false) else (crosswaylaw22_TagsMay.l0 k x0 (wrap64 (x3 + 1)))))) else ((crosswaylaw22_awake.f k).bind fun t113 => (some t113))
def crosswaylaw22_TagsMay.f (k : Nat) (a0 : Int) : Option (Bool) := crosswaylaw22_TagsMay.l0 k a0 0
theorem crosswaylaw22_TagsMay.mono_l : ∀ k, (∀ y0 y1, LeO (crosswaylaw22_TagsMay.l0 k y0 y1) (crosswaylaw22_TagsMay.l0 (k + 1) y0 y1))
  | 0 => fun _ _ r h => by simp [crosswaylaw22_TagsMay.l0] at h
  | k + 1 => by
    have ih0 := crosswaylaw22_TagsMay.mono_l k
    · intro y0 y1
      unfold crosswaylaw22_TagsMay.l0
      repeat' first
      | (with_reducible exact ih0 _ _)
      | (with_reducible exact crosswaylaw22_awake.mono _)
      | (with_reducible exact crosswaylaw22_may.mono _ _ _)
      | (with_reducible exact tags_May.mono _ _ _ _ _ _ _ _ _ _ _ _ _ _ _ _ _)
      | (with_reducible exact LeO.refl _)
      | (with_reducible exact LeO.none _)
      | (with_reducible refine LeO.ite ?_ ?_)
      | (with_reducible refine LeO.bind ?_ (fun _ => ?_))
      | exact ih0 _ _
      | exact crosswaylaw22_awake.mono _
      | exact crosswaylaw22_may.mono _ _ _
      | exact tags_May.mono _ _ _ _ _ _ _ _ _ _ _ _ _ _ _ _ _
      | exact LeO.none _
      | refine LeO.ite ?_ ?_
      | refine LeO.bind ?_ (fun _ => ?_)
theorem crosswaylaw22_TagsMay.mono : ∀ a0 k, LeO (crosswaylaw22_TagsMay.f k a0) (crosswaylaw22_TagsMay.f (k + 1) a0) := by
  intro a0 k
  have ih0 := crosswaylaw22_TagsMay.mono_l k
  unfold crosswaylaw22_TagsMay.f
  repeat' first
      | (with_reducible exact ih0 _ _)
      | (with_reducible exact crosswaylaw22_awake.mono _)
      | (with_reducible exact crosswaylaw22_may.mono _ _ _)
      | (with_reducible exact tags_May.mono _ _ _ _ _ _ _ _ _ _ _ _ _ _ _ _ _)
      | (with_reducible exact LeO.refl _)
      | (with_reducible exact LeO.none _)
      | (with_reducible refine LeO.ite ?_ ?_)
      | (with_reducible refine LeO.bind ?_ (fun _ => ?_))
      | exact ih0 _ _
      | exact crosswaylaw22_awake.mono _
      | exact crosswaylaw22_may.mono _ _ _
      | exact tags_May.mono _ _ _ _ _ _ _ _ _ _ _ _ _ _ _ _ _
      | exact LeO.none _
      | refine LeO.ite ?_ ?_
      | refine LeO.bind ?_ (fun _ => ?_)
set_option maxHeartbeats 8000000 in
set_option maxRecDepth 100000 in
theorem crosswaylaw22_TagsMay.calls (k : Nat) (a0 : Int) (r : Bool) (w : World) (h : crosswaylaw22_TagsMay.f k a0 = some r) :
    Calls Try.prog 6 #[.int .i64 a0] w fun e w' => e = .returned (.bool r) ∧ Below w.heap.size w w' := by
  have hu50 := Try.underlying50
  have HB := Aside0.mk (Below.refl w.heap.size w)
  have H : (crosswaylaw22_TagsMay.l0 k a0 0) = some r := h
  clear h
  have H' := Aside0.mk H
  clear H
  go_enter Try.func6, Try.ntmps6
  go_wp2
  go_loopg [3] k (fun kq v3 w' => ∃ (x3_1 : Int), v3 = .int .i64 x3_1 ∧ Aside0 (crosswaylaw22_TagsMay.l0 kq a0 x3_1 = some r) ∧ Aside0 (kq ≤ k) ∧ Aside0 (Below w.heap.size w w'))
  case atStart => exact ⟨(0), (by first | rfl | (simp; done) | (simp [*]; done)), H', ⟨Nat.le_refl _⟩, ⟨by repeat (first | (with_reducible first | exact HB.out | apply below_alloc | apply pw_below_drewN | apply below_drew1) | exact HB.out)⟩⟩
  case round =>
    clear H'
    obtain ⟨x3_1, rfl, HA, HK1, HB⟩ := hrel
    cases gk with
    | zero => exact absurd HA.out (by simp [crosswaylaw22_TagsMay.l0])
    | succ k1 =>
      have H := HA.out
      clear HA
      simp only [crosswaylaw22_TagsMay.l0] at H
      by_cases c2 : x3_1 ≤ 7
      · rw [if_pos c2] at H
        have c2b0 : decide (x3_1 ≤ 7) = true := decide_eq_true c2
        clear c2
        replace H := Option.bind_eq_some_iff.mp H
        obtain ⟨t114, A30, H⟩ := H
        replace H : ((crosswaylaw22_may.f k1 (Go.bits .and .i64 a0 255) x3_1).bind fun t115 => (if (t114 != t115) = true then (some false) else (crosswaylaw22_TagsMay.l0 k1 a0 (wrap64 (x3_1 + 1))))) = some r := H
        have A3 := Aside0.mk A30
        clear A30
        replace H := Option.bind_eq_some_iff.mp H
        obtain ⟨t115, A40, H⟩ := H
        replace H : (if (t114 != t115) = true then (some false) else (crosswaylaw22_TagsMay.l0 k1 a0 (wrap64 (x3_1 + 1)))) = some r := H
        have A4 := Aside0.mk A40
        clear A40
        by_cases c5 : (t114 != t115) = true
        · rw [if_pos c5] at H
          have c5b0 : (t114 != t115) = true := c5
          (try (have c5b1 : decide (t114 = t115) = false := by simpa using c5))
          (try (have c5b2 : (t114 == t115) = false := by simpa using c5))
          (try (have c5b3 : ¬ (t114 = t115) := by simpa using c5))
          clear c5
          obtain rfl := Option.some.inj H
          go_wp2_with (first | ((with_reducible refine gate_callee (f := 24) rfl ?_); refine goesL_ (some 12) rfl rfl Try.func24 (by kernel_rfl) rfl #[.agg #[.int .i64 (Go.bits .and .i64 a0 255), .int .i64 0, .int .u32 0, .int .i64 0, .int .i64 0, .int .u32 0, .string (⟨#[]⟩ : ByteArray), .int .u32 0, .int .u32 0, .int .i64 0, .int .i64 0, .slice none 0 0, .slice none 0 0, .slice none 0 0, .slice none 0 0], .int .i64 x3_1] rfl (by (try simp only [List.map_toArray, List.map_cons, List.map_nil]); first | done | rfl | (simp only [List.length_drop, List.length_take]; rfl)) ?_; (refine (tags_May.calls k1 (Go.bits .and .i64 a0 255) 0 0 0 0 0 (⟨#[]⟩ : ByteArray) 0 0 0 0 _ _ ([] : List (S143)) _ _ ([] : List (S145)) _ _ ([] : List (S163)) _ _ ([] : List Int) x3_1 t114 _ ?side1 ?side2 ?side3 ?side4 ?side5 ?side6 ?side7 ?side8 A3.out).mono ?_); (case side1 => exact Kd.C_nil _ _); (case side2 => exact Nat.le_refl _); (case side3 => exact Kd.C_nil _ _); (case side4 => exact Nat.le_refl _); (case side5 => exact Kd.C_nil _ _); (case side6 => exact Nat.le_refl _); (case side7 => exact Kd.C_nil _ _); (case side8 => exact Nat.le_refl _); rintro e w6 ⟨rfl, hb⟩; refine ⟨_, rfl, ?_⟩; have n0_ := Aside0.mk (below_step (by repeat (first | (with_reducible first | exact HB.out | apply below_alloc | apply pw_below_drewN | apply below_drew1) | exact HB.out)) hb); clear HB; have HB := n0_; clear n0_; (try clear hb); (try clear hb2); (try clear hk); (try clear hi)) | ((with_reducible refine gate_callee (f := 25) rfl ?_); refine goesL_ (some 16) rfl rfl Try.func25 (by kernel_rfl) rfl #[.int .i64 (Go.bits .and .i64 a0 255), .int .i64 x3_1] rfl (by (try simp only [List.map_toArray, List.map_cons, List.map_nil]); first | done | rfl | (simp only [List.length_drop, List.length_take]; rfl)) ?_; (with_reducible refine (crosswaylaw22_may.calls k1 (Go.bits .and .i64 a0 255) x3_1 t115 _ A4.out).mono ?_); rintro e w' ⟨rfl, ⟨nd, rfl⟩⟩; refine ⟨_, rfl, ?_⟩))
          go_ret
          exact ⟨by first | rfl | (simp [errW_none, errW_some] <;> rfl) | (simp [*, errW_none, errW_some] <;> rfl), by repeat (first | (with_reducible first | exact HB.out | apply below_alloc | apply pw_below_drewN | apply below_drew1) | exact HB.out)⟩
        · rw [if_neg c5] at H
          have c5b0 : (t114 != t115) = false := by simpa using c5
          (try (have c5b1 : decide (t114 = t115) = true := by simpa using c5))
          (try (have c5b2 : (t114 == t115) = true := by simpa using c5))
          clear c5
          have H' := Aside0.mk H
          clear H
          go_wp2_with (first | ((with_reducible refine gate_callee (f := 24) rfl ?_); refine goesL_ (some 12) rfl rfl Try.func24 (by kernel_rfl) rfl #[.agg #[.int .i64 (Go.bits .and .i64 a0 255), .int .i64 0, .int .u32 0, .int .i64 0, .int .i64 0, .int .u32 0, .string (⟨#[]⟩ : ByteArray), .int .u32 0, .int .u32 0, .int .i64 0, .int .i64 0, .slice none 0 0, .slice none 0 0, .slice none 0 0, .slice none 0 0], .int .i64 x3_1] rfl (by (try simp only [List.map_toArray, List.map_cons, List.map_nil]); first | done | rfl | (simp only [List.length_drop, List.length_take]; rfl)) ?_; (refine (tags_May.calls k1 (Go.bits .and .i64 a0 255) 0 0 0 0 0 (⟨#[]⟩ : ByteArray) 0 0 0 0 _ _ ([] : List (S143)) _ _ ([] : List (S145)) _ _ ([] : List (S163)) _ _ ([] : List Int) x3_1 t114 _ ?side1 ?side2 ?side3 ?side4 ?side5 ?side6 ?side7 ?side8 A3.out).mono ?_); (case side1 => exact Kd.C_nil _ _); (case side2 => exact Nat.le_refl _); (case side3 => exact Kd.C_nil _ _); (case side4 => exact Nat.le_refl _); (case side5 => exact Kd.C_nil _ _); (case side6 => exact Nat.le_refl _); (case side7 => exact Kd.C_nil _ _); (case side8 => exact Nat.le_refl _); rintro e w7 ⟨rfl, hb⟩; refine ⟨_, rfl, ?_⟩; have n0_ := Aside0.mk (below_step (by repeat (first | (with_reducible first | exact HB.out | apply below_alloc | apply pw_below_drewN | apply below_drew1) | exact HB.out)) hb); clear HB; have HB := n0_; clear n0_; (try clear hb); (try clear hb2); (try clear hk); (try clear hi)) | ((with_reducible refine gate_callee (f := 25) rfl ?_); refine goesL_ (some 16) rfl rfl Try.func25 (by kernel_rfl) rfl #[.int .i64 (Go.bits .and .i64 a0 255), .int .i64 x3_1] rfl (by (try simp only [List.map_toArray, List.map_cons, List.map_nil]); first | done | rfl | (simp only [List.length_drop, List.length_take]; rfl)) ?_; (with_reducible refine (crosswaylaw22_may.calls k1 (Go.bits .and .i64 a0 255) x3_1 t115 _ A4.out).mono ?_); rintro e w' ⟨rfl, ⟨nd, rfl⟩⟩; refine ⟨_, rfl, ?_⟩))
          go_roundg k1
          case measure => have := HK1.out; omega
          case rel => exact ⟨(wrap64 (x3_1 + 1)), (by first | rfl | (simp; done) | (simp [*]; done)), H', ⟨by have := HK1.out; omega⟩, ⟨by repeat (first | (with_reducible first | exact HB.out | apply below_alloc | apply pw_below_drewN | apply below_drew1) | exact HB.out)⟩⟩
      · rw [if_neg c2] at H
        have c2b0 : decide (x3_1 ≤ 7) = false := decide_eq_false c2
        clear c2
        replace H := Option.bind_eq_some_iff.mp H
        obtain ⟨t113, A80, H⟩ := H
        replace H : (some t113) = some r := H
        have A8 := Aside0.mk A80
        clear A80
        obtain rfl := Option.some.inj H
        go_wp2_with (first | ((with_reducible refine gate_callee (f := 26) rfl ?_); refine goesL_ (some 18) rfl rfl Try.func26 (by kernel_rfl) rfl #[] rfl (by (try simp only [List.map_toArray, List.map_cons, List.map_nil]); first | done | rfl | (simp only [List.length_drop, List.length_take]; rfl)) ?_; (with_reducible refine (crosswaylaw22_awake.calls k1  t113 _ A8.out).mono ?_); rintro e w9 ⟨rfl, hb⟩; refine ⟨_, rfl, ?_⟩; have n0_ := Aside0.mk (below_step (by repeat (first | (with_reducible first | exact HB.out | apply below_alloc | apply pw_below_drewN | apply below_drew1) | exact HB.out)) hb); clear HB; have HB := n0_; clear n0_; (try clear hb); (try clear hb2); (try clear hk); (try clear hi)))
        go_ret
        exact ⟨by first | rfl | (simp [errW_none, errW_some] <;> rfl) | (simp [*, errW_none, errW_some] <;> rfl), by repeat (first | (with_reducible first | exact HB.out | apply below_alloc | apply pw_below_drewN | apply below_drew1) | exact HB.out)⟩

/-- THE ONE PURE STATEMENT of crosswaylaw22_TagsMay: yours. -/
def crosswaylaw22_TagsMay.Pure : Prop := ∀ (a0 : Int), (Lit.int .i64 a0).wf = true → ∃ k, crosswaylaw22_TagsMay.f k a0 = some true
theorem crosswaylaw22_TagsMay.walk (P : crosswaylaw22_TagsMay.Pure) (a0 : Int) (w : World) (w0 : (Lit.int .i64 a0).wf = true) :
    Calls Try.prog 6 #[.int .i64 a0] w fun e w' => e = .returned (.bool true) ∧ Below w.heap.size w w' := by
  obtain ⟨k, h⟩ := P a0 w0
  refine (crosswaylaw22_TagsMay.calls k a0 true w h).mono ?_
  rintro e w' ⟨rfl, hd⟩
  exact ⟨rfl, hd⟩

end Go.Proofs.Ytnjknabighmedaa.PTm
