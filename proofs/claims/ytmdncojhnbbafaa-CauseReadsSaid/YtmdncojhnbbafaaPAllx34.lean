-- Written by a program of this workplace (wip/mkprint2.py, over the kit's print) for this claim
import Derived.Test.YtmdncojhnbbafaaPAllx0
import Derived.Test.YtmdncojhnbbafaaPAllx11
import Derived.Test.YtmdncojhnbbafaaPAllx20
import Derived.Test.YtmdncojhnbbafaaPAllx33
namespace Go.Proofs.Ytmdncojhnbbafaa.PAll
open Go.RowKit Go.Proofs.YtmdncojhnbbafaaW.PrintWords Go.Proofs.YtmdncojhnbbafaaW.PrintLast Go.Proofs.YtmdncojhnbbafaaW.PrintMore
attribute [local go_sem] max2_int min2_int max_two min_two max_three min_three max_four min_four   -- for this text's walks alone
set_option linter.unusedVariables false
set_option linter.unusedSimpArgs false

/-! ### param_All: function 54 -/
def param_All.l0 : Nat → List (S65) → ByteArray → Int → Option ((List (S65)) × Int)
  | 0, _, _, _ => none
  | k + 1, x5, x440000, x440001 => (octet_Reader_Left.f x440000 x440001).bind fun bt440 => (if bt440.1 > 0 then (if (x5.length : Int) = 16 then ((octet_Reader_Fail.f bt440.2.1 bt440.2.2 5).bind fun bt446 => ((octet_Reader_Err.f bt446.1 bt446.2).bind fun bt448 => (if bt448.1 = 0 then (some (x5, 0)) else (some (([] : List (S65)), bt448.1))))) else ((param_Take.f k bt440.2.1 bt440.2.2).bind fun bt451 => (if x5.length < 5864062014805 then (param_All.l0 k (x5 ++ [(⟨bt451.1, bt451.2.1⟩ : S65)]) bt451.2.2.1 bt451.2.2.2) else (none)))) else ((octet_Reader_Err.f bt440.2.1 bt440.2.2).bind fun bt443 => (if bt443.1 = 0 then (some (x5, 0)) else (some (([] : List (S65)), bt443.1)))))
def param_All.f (k : Nat) (a0 : ByteArray) : Option ((List (S65)) × Int) := (octet_New.f a0).bind fun bt437 => (param_All.l0 k ([] : List (S65)) bt437.1 bt437.2)
theorem param_All.mono_l : ∀ k, (∀ y0 y1 y2, LeO (param_All.l0 k y0 y1 y2) (param_All.l0 (k + 1) y0 y1 y2))
  | 0 => fun _ _ _ r h => by simp [param_All.l0] at h
  | k + 1 => by
    have ih0 := param_All.mono_l k
    · intro y0 y1 y2
      unfold param_All.l0
      repeat' first
      | (with_reducible exact ih0 _ _ _)
      | (with_reducible exact param_Take.mono _ _ _)
      | (with_reducible exact LeO.refl _)
      | (with_reducible exact LeO.none _)
      | (with_reducible refine LeO.ite ?_ ?_)
      | (with_reducible refine LeO.bind ?_ (fun _ => ?_))
      | exact ih0 _ _ _
      | exact param_Take.mono _ _ _
      | exact LeO.none _
      | refine LeO.ite ?_ ?_
      | refine LeO.bind ?_ (fun _ => ?_)
theorem param_All.mono : ∀ a0 k, LeO (param_All.f k a0) (param_All.f (k + 1) a0) := by
  intro a0 k
  have ih0 := param_All.mono_l k
  unfold param_All.f
  repeat' first
      | (with_reducible exact ih0 _ _ _)
      | (with_reducible exact param_Take.mono _ _ _)
      | (with_reducible exact LeO.refl _)
      | (with_reducible exact LeO.none _)
      | (with_reducible refine LeO.ite ?_ ?_)
      | (with_reducible refine LeO.bind ?_ (fun _ => ?_))
      | exact ih0 _ _ _
      | exact param_Take.mono _ _ _
      | exact LeO.none _
      | refine LeO.ite ?_ ?_
      | refine LeO.bind ?_ (fun _ => ?_)
set_option maxHeartbeats 8000000 in
set_option maxRecDepth 100000 in
theorem param_All.calls (k : Nat) (a0 : ByteArray) (r1 : List (S65)) (r2 : Int) (w : World) (h : param_All.f k a0 = some (r1, r2)) :
    Calls Try.prog 54 #[.string a0] w fun e w' => ∃ v0_ : Value, e = .returned (.tuple #[v0_, .int .i64 r2]) ∧ Kd.R k65 65 w' w.heap.size (fun _ => True) v0_ r1 ∧ Below w.heap.size w w' := by
  have HB := Aside0.mk (Below.refl w.heap.size w)
  have H : ((octet_New.f a0).bind fun bt437 => (param_All.l0 k ([] : List (S65)) bt437.1 bt437.2)) = some (r1, r2) := h
  clear h
  replace H := Option.bind_eq_some_iff.mp H
  obtain ⟨⟨t437, t438⟩, A20, H⟩ := H
  replace H : (param_All.l0 k ([] : List (S65)) t437 t438) = some (r1, r2) := H
  have A2 := Aside0.mk A20
  clear A20
  have H' := Aside0.mk H
  clear H
  go_enter Try.func54, Try.ntmps54
  go_wp2_with (first | ((with_reducible refine gate_callee (f := 30) rfl ?_); refine goesL_ (some 8) rfl rfl Try.func30 (by kernel_rfl) rfl #[.string a0] rfl (by (try simp only [List.map_toArray, List.map_cons, List.map_nil]); first | done | rfl | (simp only [List.length_drop, List.length_take]; rfl)) ?_; (with_reducible refine (octet_New.calls a0 t437 t438 w _ ?side1 A2.out).mono ?_); (case side1 => repeat (first | (with_reducible first | exact HB.out | apply below_alloc | apply pw_below_drewN | apply below_drew1) | exact HB.out)); rintro e w3 ⟨g439, rfl, hi, hb, hb2⟩; refine ⟨_, rfl, ?_⟩; have n0_ := Aside0.mk (hb); have n1_ := Aside0.mk (hi); clear HB; have HB := n0_; have HI439 := n1_; clear n0_ n1_; (try clear hb); (try clear hb2); (try clear hk); (try clear hi)))
  go_loopg [5] k (fun kq v5 w' => ∃ (x5_1 : List (S65)) (x440000_1 : ByteArray) (x440001_1 : Int), Aside0 (param_All.l0 kq x5_1 x440000_1 x440001_1 = some (r1, r2)) ∧ Aside0 (kq ≤ k) ∧ Aside0 (Kd.R k65 65 w' w.heap.size (fun _ => True) v5 x5_1) ∧ Aside0 (IsS113 w w' g439 x440000_1 x440001_1) ∧ Aside0 (Below w.heap.size w w'))
  case atStart => exact ⟨(([] : List (S65))), (t437), (t438), H', ⟨Nat.le_refl _⟩, ⟨by first | exact Kd.R_nil _ _ _ _ _ | exact Kd.N_nil _ _ _ _ _ | exact Kd.V_nil _ _ _ _ _ | exact Kd.Q_nil _ _ _ _ _ | exact Kd.S_nil _ _ _ _ _⟩, ⟨by repeat (first | (with_reducible first | exact HI439.out | apply IsS113.alloc | apply IsS113.drewN | apply IsS113.drew | apply IsS113.set_0 | apply IsS113.set_1) | exact HI439.out)⟩, ⟨by repeat (first | (with_reducible first | exact HB.out | apply below_alloc | apply pw_below_drewN | apply below_drew1 | refine below_set ?_ (IsS113.ge HI439.out)) | exact HB.out)⟩⟩
  case round =>
    clear H'
    try clear p2
    try clear c3
    obtain ⟨x5_1, x440000_1, x440001_1, HA, HK1, HO_5, HI439, HB⟩ := hrel
    cases gk with
    | zero => exact absurd HA.out (by simp [param_All.l0])
    | succ k1 =>
      have H := HA.out
      clear HA
      simp only [param_All.l0] at H
      replace H := Option.bind_eq_some_iff.mp H
      obtain ⟨⟨t440, t441, t442⟩, A40, H⟩ := H
      replace H : (if t440 > 0 then (if (x5_1.length : Int) = 16 then ((octet_Reader_Fail.f t441 t442 5).bind fun bt446 => ((octet_Reader_Err.f bt446.1 bt446.2).bind fun bt448 => (if bt448.1 = 0 then (some (x5_1, 0)) else (some (([] : List (S65)), bt448.1))))) else ((param_Take.f k1 t441 t442).bind fun bt451 => (if x5_1.length < 5864062014805 then (param_All.l0 k1 (x5_1 ++ [(⟨bt451.1, bt451.2.1⟩ : S65)]) bt451.2.2.1 bt451.2.2.2) else (none)))) else ((octet_Reader_Err.f t441 t442).bind fun bt443 => (if bt443.1 = 0 then (some (x5_1, 0)) else (some (([] : List (S65)), bt443.1))))) = some (r1, r2) := H
      have A4 := Aside0.mk A40
      clear A40
      by_cases c5 : t440 > 0
      · rw [if_pos c5] at H
        have c5b0 : decide (0 < t440) = true := decide_eq_true c5
        clear c5
        by_cases c6 : (x5_1.length : Int) = 16
        · rw [if_pos c6] at H
          have c6b0 : ((x5_1.length : Int) == 16) = true := beq_iff_eq.mpr c6
          have c6b1 : ((x5_1.length : Int) != 16) = false := bne_eq_false_iff_eq.mpr c6
          clear c6
          replace H := Option.bind_eq_some_iff.mp H
          obtain ⟨⟨t446, t447⟩, A70, H⟩ := H
          replace H : ((octet_Reader_Err.f t446 t447).bind fun bt448 => (if bt448.1 = 0 then (some (x5_1, 0)) else (some (([] : List (S65)), bt448.1)))) = some (r1, r2) := H
          have A7 := Aside0.mk A70
          clear A70
          replace H := Option.bind_eq_some_iff.mp H
          obtain ⟨⟨t448, t449, t450⟩, A80, H⟩ := H
          replace H : (if t448 = 0 then (some (x5_1, 0)) else (some (([] : List (S65)), t448))) = some (r1, r2) := H
          have A8 := Aside0.mk A80
          clear A80
          by_cases c9 : t448 = 0
          · rw [if_pos c9] at H
            have c9b0 : (t448 == 0) = true := beq_iff_eq.mpr c9
            have c9b1 : (t448 != 0) = false := bne_eq_false_iff_eq.mpr c9
            clear c9
            simp only [Option.some.injEq, Prod.mk.injEq] at H
            obtain ⟨rfl, rfl⟩ := H
            go_wp2_with (first | ((with_reducible refine gate_callee (f := 42) rfl ?_); refine goesL_ (some 10) rfl rfl Try.func42 (by kernel_rfl) rfl #[.pointer (some ⟨g439, 0, none⟩)] rfl (by (try simp only [List.map_toArray, List.map_cons, List.map_nil]); first | done | rfl | (simp only [List.length_drop, List.length_take]; rfl)) ?_; (with_reducible refine (octet_Reader_Left.calls g439 x440000_1 x440001_1 t440 t441 t442 w _ ?side1 ?side2 A4.out).mono ?_); (case side1 => repeat (first | (with_reducible first | exact HI439.out | apply IsS113.alloc | apply IsS113.drewN | apply IsS113.drew | apply IsS113.set_0 | apply IsS113.set_1) | exact HI439.out)); (case side2 => repeat (first | (with_reducible first | exact HB.out | apply below_alloc | apply pw_below_drewN | apply below_drew1 | refine below_set ?_ (IsS113.ge HI439.out)) | exact HB.out)); rintro e w10 ⟨rfl, hi, hb, hk⟩; refine ⟨_, rfl, ?_⟩; have n0_ := Aside0.mk (Kd.R_mono (Kd.R_keep (IsS113.apart (show IsS113 w _ g439 x440000_1 x440001_1 from by repeat (first | (with_reducible first | exact HI439.out | apply IsS113.alloc | apply IsS113.drewN | apply IsS113.drew | apply IsS113.set_0 | apply IsS113.set_1) | exact HI439.out)) (by (with_reducible repeat (first | apply Kd.R_alloc | apply Kd.R_drewN | apply Kd.R_drew)); exact HO_5.out) (by decide)) hk (fun _ h => h.2)) (fun _ h => h.1)); have n1_ := Aside0.mk (hb); have n2_ := Aside0.mk (hi); clear HO_5; clear HB; clear HI439; have HO_5 := n0_; have HB := n1_; have HI439 := n2_; clear n0_ n1_ n2_; (try clear hb); (try clear hb2); (try clear hk); (try clear hi); obtain ⟨Ao11, co11, eo11⟩ := Kd.R_slice HO_5.out; subst eo11) | ((with_reducible refine gate_callee (f := 45) rfl ?_); refine goesL_ (some 16) rfl rfl Try.func45 (by kernel_rfl) rfl #[.pointer (some ⟨g439, 0, none⟩), .int .i64 5] rfl (by (try simp only [List.map_toArray, List.map_cons, List.map_nil]); first | done | rfl | (simp only [List.length_drop, List.length_take]; rfl)) ?_; (with_reducible refine (octet_Reader_Fail.calls g439 t441 t442 5 t446 t447 w _ ?side1 ?side2 A7.out).mono ?_); (case side1 => repeat (first | (with_reducible first | exact HI439.out | apply IsS113.alloc | apply IsS113.drewN | apply IsS113.drew | apply IsS113.set_0 | apply IsS113.set_1) | exact HI439.out)); (case side2 => repeat (first | (with_reducible first | exact HB.out | apply below_alloc | apply pw_below_drewN | apply below_drew1 | refine below_set ?_ (IsS113.ge HI439.out)) | exact HB.out)); rintro e w12 ⟨rfl, hi, hb, hk⟩; refine ⟨_, rfl, ?_⟩; have n0_ := Aside0.mk (Kd.R_mono (Kd.R_keep (IsS113.apart (show IsS113 w _ g439 t441 t442 from by repeat (first | (with_reducible first | exact HI439.out | apply IsS113.alloc | apply IsS113.drewN | apply IsS113.drew | apply IsS113.set_0 | apply IsS113.set_1) | exact HI439.out)) (by (with_reducible repeat (first | apply Kd.R_alloc | apply Kd.R_drewN | apply Kd.R_drew)); exact HO_5.out) (by decide)) hk (fun _ h => h.2)) (fun _ h => h.1)); have n1_ := Aside0.mk (hb); have n2_ := Aside0.mk (hi); clear HO_5; clear HB; clear HI439; have HO_5 := n0_; have HB := n1_; have HI439 := n2_; clear n0_ n1_ n2_; (try clear hb); (try clear hb2); (try clear hk); (try clear hi)) | ((with_reducible refine gate_callee (f := 41) rfl ?_); refine goesL_ (some 23) rfl rfl Try.func41 (by kernel_rfl) rfl #[.pointer (some ⟨g439, 0, none⟩)] rfl (by (try simp only [List.map_toArray, List.map_cons, List.map_nil]); first | done | rfl | (simp only [List.length_drop, List.length_take]; rfl)) ?_; (with_reducible refine (octet_Reader_Err.calls g439 t446 t447 t448 t449 t450 w _ ?side1 ?side2 A8.out).mono ?_); (case side1 => repeat (first | (with_reducible first | exact HI439.out | apply IsS113.alloc | apply IsS113.drewN | apply IsS113.drew | apply IsS113.set_0 | apply IsS113.set_1) | exact HI439.out)); (case side2 => repeat (first | (with_reducible first | exact HB.out | apply below_alloc | apply pw_below_drewN | apply below_drew1 | refine below_set ?_ (IsS113.ge HI439.out)) | exact HB.out)); rintro e w13 ⟨rfl, hi, hb, hk⟩; refine ⟨_, rfl, ?_⟩; have n0_ := Aside0.mk (Kd.R_mono (Kd.R_keep (IsS113.apart (show IsS113 w _ g439 t446 t447 from by repeat (first | (with_reducible first | exact HI439.out | apply IsS113.alloc | apply IsS113.drewN | apply IsS113.drew | apply IsS113.set_0 | apply IsS113.set_1) | exact HI439.out)) (by (with_reducible repeat (first | apply Kd.R_alloc | apply Kd.R_drewN | apply Kd.R_drew)); exact HO_5.out) (by decide)) hk (fun _ h => h.2)) (fun _ h => h.1)); have n1_ := Aside0.mk (hb); have n2_ := Aside0.mk (hi); clear HO_5; clear HB; clear HI439; have HO_5 := n0_; have HB := n1_; have HI439 := n2_; clear n0_ n1_ n2_; (try clear hb); (try clear hb2); (try clear hk); (try clear hi)))
            go_ret2
            exact ⟨_, by first | rfl | (simp [errW_none, errW_some] <;> rfl) | (simp [*, errW_none, errW_some] <;> rfl), by (with_reducible repeat (first | apply Kd.R_alloc | apply Kd.R_drewN | apply Kd.R_drew)); exact HO_5.out, by repeat (first | (with_reducible first | exact HB.out | apply below_alloc | apply pw_below_drewN | apply below_drew1 | refine below_set ?_ (IsS113.ge HI439.out)) | exact HB.out)⟩
          · rw [if_neg c9] at H
            have c9b0 : (t448 == 0) = false := beq_eq_false_iff_ne.mpr c9
            have c9b1 : (t448 != 0) = true := bne_iff_ne.mpr c9
            simp only [Option.some.injEq, Prod.mk.injEq] at H
            obtain ⟨rfl, rfl⟩ := H
            go_wp2_with (first | ((with_reducible refine gate_callee (f := 42) rfl ?_); refine goesL_ (some 10) rfl rfl Try.func42 (by kernel_rfl) rfl #[.pointer (some ⟨g439, 0, none⟩)] rfl (by (try simp only [List.map_toArray, List.map_cons, List.map_nil]); first | done | rfl | (simp only [List.length_drop, List.length_take]; rfl)) ?_; (with_reducible refine (octet_Reader_Left.calls g439 x440000_1 x440001_1 t440 t441 t442 w _ ?side1 ?side2 A4.out).mono ?_); (case side1 => repeat (first | (with_reducible first | exact HI439.out | apply IsS113.alloc | apply IsS113.drewN | apply IsS113.drew | apply IsS113.set_0 | apply IsS113.set_1) | exact HI439.out)); (case side2 => repeat (first | (with_reducible first | exact HB.out | apply below_alloc | apply pw_below_drewN | apply below_drew1 | refine below_set ?_ (IsS113.ge HI439.out)) | exact HB.out)); rintro e w14 ⟨rfl, hi, hb, hk⟩; refine ⟨_, rfl, ?_⟩; have n0_ := Aside0.mk (Kd.R_mono (Kd.R_keep (IsS113.apart (show IsS113 w _ g439 x440000_1 x440001_1 from by repeat (first | (with_reducible first | exact HI439.out | apply IsS113.alloc | apply IsS113.drewN | apply IsS113.drew | apply IsS113.set_0 | apply IsS113.set_1) | exact HI439.out)) (by (with_reducible repeat (first | apply Kd.R_alloc | apply Kd.R_drewN | apply Kd.R_drew)); exact HO_5.out) (by decide)) hk (fun _ h => h.2)) (fun _ h => h.1)); have n1_ := Aside0.mk (hb); have n2_ := Aside0.mk (hi); clear HO_5; clear HB; clear HI439; have HO_5 := n0_; have HB := n1_; have HI439 := n2_; clear n0_ n1_ n2_; (try clear hb); (try clear hb2); (try clear hk); (try clear hi); obtain ⟨Ao15, co15, eo15⟩ := Kd.R_slice HO_5.out; subst eo15) | ((with_reducible refine gate_callee (f := 45) rfl ?_); refine goesL_ (some 16) rfl rfl Try.func45 (by kernel_rfl) rfl #[.pointer (some ⟨g439, 0, none⟩), .int .i64 5] rfl (by (try simp only [List.map_toArray, List.map_cons, List.map_nil]); first | done | rfl | (simp only [List.length_drop, List.length_take]; rfl)) ?_; (with_reducible refine (octet_Reader_Fail.calls g439 t441 t442 5 t446 t447 w _ ?side1 ?side2 A7.out).mono ?_); (case side1 => repeat (first | (with_reducible first | exact HI439.out | apply IsS113.alloc | apply IsS113.drewN | apply IsS113.drew | apply IsS113.set_0 | apply IsS113.set_1) | exact HI439.out)); (case side2 => repeat (first | (with_reducible first | exact HB.out | apply below_alloc | apply pw_below_drewN | apply below_drew1 | refine below_set ?_ (IsS113.ge HI439.out)) | exact HB.out)); rintro e w16 ⟨rfl, hi, hb, hk⟩; refine ⟨_, rfl, ?_⟩; have n0_ := Aside0.mk (Kd.R_mono (Kd.R_keep (IsS113.apart (show IsS113 w _ g439 t441 t442 from by repeat (first | (with_reducible first | exact HI439.out | apply IsS113.alloc | apply IsS113.drewN | apply IsS113.drew | apply IsS113.set_0 | apply IsS113.set_1) | exact HI439.out)) (by (with_reducible repeat (first | apply Kd.R_alloc | apply Kd.R_drewN | apply Kd.R_drew)); exact HO_5.out) (by decide)) hk (fun _ h => h.2)) (fun _ h => h.1)); have n1_ := Aside0.mk (hb); have n2_ := Aside0.mk (hi); clear HO_5; clear HB; clear HI439; have HO_5 := n0_; have HB := n1_; have HI439 := n2_; clear n0_ n1_ n2_; (try clear hb); (try clear hb2); (try clear hk); (try clear hi)) | ((with_reducible refine gate_callee (f := 41) rfl ?_); refine goesL_ (some 23) rfl rfl Try.func41 (by kernel_rfl) rfl #[.pointer (some ⟨g439, 0, none⟩)] rfl (by (try simp only [List.map_toArray, List.map_cons, List.map_nil]); first | done | rfl | (simp only [List.length_drop, List.length_take]; rfl)) ?_; (with_reducible refine (octet_Reader_Err.calls g439 t446 t447 t448 t449 t450 w _ ?side1 ?side2 A8.out).mono ?_); (case side1 => repeat (first | (with_reducible first | exact HI439.out | apply IsS113.alloc | apply IsS113.drewN | apply IsS113.drew | apply IsS113.set_0 | apply IsS113.set_1) | exact HI439.out)); (case side2 => repeat (first | (with_reducible first | exact HB.out | apply below_alloc | apply pw_below_drewN | apply below_drew1 | refine below_set ?_ (IsS113.ge HI439.out)) | exact HB.out)); rintro e w17 ⟨rfl, hi, hb, hk⟩; refine ⟨_, rfl, ?_⟩; have n0_ := Aside0.mk (Kd.R_mono (Kd.R_keep (IsS113.apart (show IsS113 w _ g439 t446 t447 from by repeat (first | (with_reducible first | exact HI439.out | apply IsS113.alloc | apply IsS113.drewN | apply IsS113.drew | apply IsS113.set_0 | apply IsS113.set_1) | exact HI439.out)) (by (with_reducible repeat (first | apply Kd.R_alloc | apply Kd.R_drewN | apply Kd.R_drew)); exact HO_5.out) (by decide)) hk (fun _ h => h.2)) (fun _ h => h.1)); have n1_ := Aside0.mk (hb); have n2_ := Aside0.mk (hi); clear HO_5; clear HB; clear HI439; have HO_5 := n0_; have HB := n1_; have HI439 := n2_; clear n0_ n1_ n2_; (try clear hb); (try clear hb2); (try clear hk); (try clear hi)))
            go_ret2
            exact ⟨_, by first | rfl | (simp [errW_none, errW_some] <;> rfl) | (simp [*, errW_none, errW_some] <;> rfl), by first | exact Kd.R_nil _ _ _ _ _ | exact Kd.N_nil _ _ _ _ _ | exact Kd.V_nil _ _ _ _ _ | exact Kd.Q_nil _ _ _ _ _ | exact Kd.S_nil _ _ _ _ _, by repeat (first | (with_reducible first | exact HB.out | apply below_alloc | apply pw_below_drewN | apply below_drew1 | refine below_set ?_ (IsS113.ge HI439.out)) | exact HB.out)⟩
        · rw [if_neg c6] at H
          have c6b0 : ((x5_1.length : Int) == 16) = false := beq_eq_false_iff_ne.mpr c6
          have c6b1 : ((x5_1.length : Int) != 16) = true := bne_iff_ne.mpr c6
          replace H := Option.bind_eq_some_iff.mp H
          obtain ⟨⟨t451, t452, t453, t454⟩, A180, H⟩ := H
          replace H : (if x5_1.length < 5864062014805 then (param_All.l0 k1 (x5_1 ++ [(⟨t451, t452⟩ : S65)]) t453 t454) else (none)) = some (r1, r2) := H
          have A18 := Aside0.mk A180
          clear A180
          by_cases c19 : x5_1.length < 5864062014805
          · rw [if_pos c19] at H
            have LMc19 := Aside0.mk c19
            clear c19
            obtain ⟨y455, hy455⟩ : ∃ y_ : List (S65), y_ = (x5_1 ++ [(⟨t451, t452⟩ : S65)]) := ⟨_, rfl⟩
            replace H : (param_All.l0 k1 y455 t453 t454) = some (r1, r2) := by first | (rw [hy455]; with_reducible exact H) | (have H2_ := (Option.bind_some _ _).symm.trans H; rw [hy455]; with_reducible exact H2_) | (have H2_ := (Option.bind_some _ _).symm.trans H; with_reducible exact H2_) | with_reducible exact H | (rw [hy455]; exact H) | exact H
            have Ny455 := Aside0.mk hy455
            clear hy455
            have H' := Aside0.mk H
            clear H
            go_wp2_with (first | ((with_reducible refine gate_callee (f := 42) rfl ?_); refine goesL_ (some 10) rfl rfl Try.func42 (by kernel_rfl) rfl #[.pointer (some ⟨g439, 0, none⟩)] rfl (by (try simp only [List.map_toArray, List.map_cons, List.map_nil]); first | done | rfl | (simp only [List.length_drop, List.length_take]; rfl)) ?_; (with_reducible refine (octet_Reader_Left.calls g439 x440000_1 x440001_1 t440 t441 t442 w _ ?side1 ?side2 A4.out).mono ?_); (case side1 => repeat (first | (with_reducible first | exact HI439.out | apply IsS113.alloc | apply IsS113.drewN | apply IsS113.drew | apply IsS113.set_0 | apply IsS113.set_1) | exact HI439.out)); (case side2 => repeat (first | (with_reducible first | exact HB.out | apply below_alloc | apply pw_below_drewN | apply below_drew1 | refine below_set ?_ (IsS113.ge HI439.out)) | exact HB.out)); rintro e w20 ⟨rfl, hi, hb, hk⟩; refine ⟨_, rfl, ?_⟩; have n0_ := Aside0.mk (Kd.R_mono (Kd.R_keep (IsS113.apart (show IsS113 w _ g439 x440000_1 x440001_1 from by repeat (first | (with_reducible first | exact HI439.out | apply IsS113.alloc | apply IsS113.drewN | apply IsS113.drew | apply IsS113.set_0 | apply IsS113.set_1) | exact HI439.out)) (by (with_reducible repeat (first | apply Kd.R_alloc | apply Kd.R_drewN | apply Kd.R_drew)); exact HO_5.out) (by decide)) hk (fun _ h => h.2)) (fun _ h => h.1)); have n1_ := Aside0.mk (hb); have n2_ := Aside0.mk (hi); clear HO_5; clear HB; clear HI439; have HO_5 := n0_; have HB := n1_; have HI439 := n2_; clear n0_ n1_ n2_; (try clear hb); (try clear hb2); (try clear hk); (try clear hi); obtain ⟨Ao21, co21, eo21⟩ := Kd.R_slice HO_5.out; subst eo21) | ((with_reducible refine gate_callee (f := 64) rfl ?_); refine goesL_ (some 19) rfl rfl Try.func64 (by kernel_rfl) rfl #[.pointer (some ⟨g439, 0, none⟩)] rfl (by (try simp only [List.map_toArray, List.map_cons, List.map_nil]); first | done | rfl | (simp only [List.length_drop, List.length_take]; rfl)) ?_; (with_reducible refine (param_Take.calls k1 g439 t441 t442 t451 t452 t453 t454 w _ ?side1 ?side2 A18.out).mono ?_); (case side1 => repeat (first | (with_reducible first | exact HI439.out | apply IsS113.alloc | apply IsS113.drewN | apply IsS113.drew | apply IsS113.set_0 | apply IsS113.set_1) | exact HI439.out)); (case side2 => repeat (first | (with_reducible first | exact HB.out | apply below_alloc | apply pw_below_drewN | apply below_drew1 | refine below_set ?_ (IsS113.ge HI439.out)) | exact HB.out)); rintro e w22 ⟨rfl, hi, hb, hk⟩; refine ⟨_, rfl, ?_⟩; have n0_ := Aside0.mk (Kd.R_mono (Kd.R_keep (IsS113.apart (show IsS113 w _ g439 t441 t442 from by repeat (first | (with_reducible first | exact HI439.out | apply IsS113.alloc | apply IsS113.drewN | apply IsS113.drew | apply IsS113.set_0 | apply IsS113.set_1) | exact HI439.out)) (by (with_reducible repeat (first | apply Kd.R_alloc | apply Kd.R_drewN | apply Kd.R_drew)); exact HO_5.out) (by decide)) hk (fun _ h => h.2)) (fun _ h => h.1)); have n1_ := Aside0.mk (hb); have n2_ := Aside0.mk (hi); clear HO_5; clear HB; clear HI439; have HO_5 := n0_; have HB := n1_; have HI439 := n2_; clear n0_ n1_ n2_; (try clear hb); (try clear hb2); (try clear hk); (try clear hi)) | ((with_reducible refine gate_builtin (b := .append) (xs := #[.tmp 17, .tmp 20]) rfl ?_); at_builtin; refine Kd.R_append k65 (w0 := w) w.heap.size rfl (.tmp 17) (.tmp 20) 63 65 (.agg #[(.int .i64 0), (.string ⟨#[]⟩)]) 24 rfl Try.underlying63 info65 rfl (by decide) (by omega) (.slice Ao21 x5_1.length co21) x5_1 (⟨t451, t452⟩ : S65) [.int .i64 t451, .string t452] (fun _ => True) (fun _ => False) rfl rfl ?aP (fun _ hk => hk.elim) ?aF ?aO ?aB ?aS ?aL ?_; (case aP => exact k65_mkM _ _ _ (⟨t451, t452⟩ : S65)); (case aB => exact (by repeat (first | (with_reducible first | exact HB.out | apply below_alloc | apply pw_below_drewN | apply below_drew1 | refine below_set ?_ (IsS113.ge HI439.out)) | exact HB.out))); (case aF => exact (fun _ _ => trivial)); (case aO => exact (by (with_reducible repeat (first | apply Kd.R_alloc | apply Kd.R_drewN | apply Kd.R_drew)); exact HO_5.out)); (case aS => exact (below_size (by repeat (first | (with_reducible first | exact HB.out | apply below_alloc | apply pw_below_drewN | apply below_drew1 | refine below_set ?_ (IsS113.ge HI439.out)) | exact HB.out)))); (case aL => have := LMc19.out; omega); intro v456 w23 ho hb hg hat; rw [← Ny455.out] at ho; have n0_ := Aside0.mk (IsS113.grown (by repeat (first | (with_reducible first | exact HI439.out | apply IsS113.alloc | apply IsS113.drewN | apply IsS113.drew | apply IsS113.set_0 | apply IsS113.set_1) | exact HI439.out)) hg (IsS113.own_ne HI439.out HO_5.out (by decide))); have n1_ := Aside0.mk (hb); have n2_ := Aside0.mk (ho); clear HI439; clear HB; clear HO_5; have HI439 := n0_; have HB := n1_; have HO457 := n2_; clear n0_ n1_ n2_; clear ho hb hg hat))
            go_roundg k1
            case measure => have := HK1.out; omega
            case rel => exact ⟨(y455), (t453), (t454), H', ⟨by have := HK1.out; omega⟩, ⟨by (with_reducible repeat (first | apply Kd.R_alloc | apply Kd.R_drewN | apply Kd.R_drew)); exact HO457.out⟩, ⟨by repeat (first | (with_reducible first | exact HI439.out | apply IsS113.alloc | apply IsS113.drewN | apply IsS113.drew | apply IsS113.set_0 | apply IsS113.set_1) | exact HI439.out)⟩, ⟨by repeat (first | (with_reducible first | exact HB.out | apply below_alloc | apply pw_below_drewN | apply below_drew1 | refine below_set ?_ (IsS113.ge HI439.out)) | exact HB.out)⟩⟩
          · rw [if_neg c19] at H
            exact absurd H (by simp)
      · rw [if_neg c5] at H
        have c5b0 : decide (0 < t440) = false := decide_eq_false c5
        clear c5
        replace H := Option.bind_eq_some_iff.mp H
        obtain ⟨⟨t443, t444, t445⟩, A240, H⟩ := H
        replace H : (if t443 = 0 then (some (x5_1, 0)) else (some (([] : List (S65)), t443))) = some (r1, r2) := H
        have A24 := Aside0.mk A240
        clear A240
        by_cases c25 : t443 = 0
        · rw [if_pos c25] at H
          have c25b0 : (t443 == 0) = true := beq_iff_eq.mpr c25
          have c25b1 : (t443 != 0) = false := bne_eq_false_iff_eq.mpr c25
          clear c25
          simp only [Option.some.injEq, Prod.mk.injEq] at H
          obtain ⟨rfl, rfl⟩ := H
          go_wp2_with (first | ((with_reducible refine gate_callee (f := 42) rfl ?_); refine goesL_ (some 10) rfl rfl Try.func42 (by kernel_rfl) rfl #[.pointer (some ⟨g439, 0, none⟩)] rfl (by (try simp only [List.map_toArray, List.map_cons, List.map_nil]); first | done | rfl | (simp only [List.length_drop, List.length_take]; rfl)) ?_; (with_reducible refine (octet_Reader_Left.calls g439 x440000_1 x440001_1 t440 t441 t442 w _ ?side1 ?side2 A4.out).mono ?_); (case side1 => repeat (first | (with_reducible first | exact HI439.out | apply IsS113.alloc | apply IsS113.drewN | apply IsS113.drew | apply IsS113.set_0 | apply IsS113.set_1) | exact HI439.out)); (case side2 => repeat (first | (with_reducible first | exact HB.out | apply below_alloc | apply pw_below_drewN | apply below_drew1 | refine below_set ?_ (IsS113.ge HI439.out)) | exact HB.out)); rintro e w26 ⟨rfl, hi, hb, hk⟩; refine ⟨_, rfl, ?_⟩; have n0_ := Aside0.mk (Kd.R_mono (Kd.R_keep (IsS113.apart (show IsS113 w _ g439 x440000_1 x440001_1 from by repeat (first | (with_reducible first | exact HI439.out | apply IsS113.alloc | apply IsS113.drewN | apply IsS113.drew | apply IsS113.set_0 | apply IsS113.set_1) | exact HI439.out)) (by (with_reducible repeat (first | apply Kd.R_alloc | apply Kd.R_drewN | apply Kd.R_drew)); exact HO_5.out) (by decide)) hk (fun _ h => h.2)) (fun _ h => h.1)); have n1_ := Aside0.mk (hb); have n2_ := Aside0.mk (hi); clear HO_5; clear HB; clear HI439; have HO_5 := n0_; have HB := n1_; have HI439 := n2_; clear n0_ n1_ n2_; (try clear hb); (try clear hb2); (try clear hk); (try clear hi)) | ((with_reducible refine gate_callee (f := 41) rfl ?_); refine goesL_ (some 23) rfl rfl Try.func41 (by kernel_rfl) rfl #[.pointer (some ⟨g439, 0, none⟩)] rfl (by (try simp only [List.map_toArray, List.map_cons, List.map_nil]); first | done | rfl | (simp only [List.length_drop, List.length_take]; rfl)) ?_; (with_reducible refine (octet_Reader_Err.calls g439 t441 t442 t443 t444 t445 w _ ?side1 ?side2 A24.out).mono ?_); (case side1 => repeat (first | (with_reducible first | exact HI439.out | apply IsS113.alloc | apply IsS113.drewN | apply IsS113.drew | apply IsS113.set_0 | apply IsS113.set_1) | exact HI439.out)); (case side2 => repeat (first | (with_reducible first | exact HB.out | apply below_alloc | apply pw_below_drewN | apply below_drew1 | refine below_set ?_ (IsS113.ge HI439.out)) | exact HB.out)); rintro e w27 ⟨rfl, hi, hb, hk⟩; refine ⟨_, rfl, ?_⟩; have n0_ := Aside0.mk (Kd.R_mono (Kd.R_keep (IsS113.apart (show IsS113 w _ g439 t441 t442 from by repeat (first | (with_reducible first | exact HI439.out | apply IsS113.alloc | apply IsS113.drewN | apply IsS113.drew | apply IsS113.set_0 | apply IsS113.set_1) | exact HI439.out)) (by (with_reducible repeat (first | apply Kd.R_alloc | apply Kd.R_drewN | apply Kd.R_drew)); exact HO_5.out) (by decide)) hk (fun _ h => h.2)) (fun _ h => h.1)); have n1_ := Aside0.mk (hb); have n2_ := Aside0.mk (hi); clear HO_5; clear HB; clear HI439; have HO_5 := n0_; have HB := n1_; have HI439 := n2_; clear n0_ n1_ n2_; (try clear hb); (try clear hb2); (try clear hk); (try clear hi)))
          go_ret2
          exact ⟨_, by first | rfl | (simp [errW_none, errW_some] <;> rfl) | (simp [*, errW_none, errW_some] <;> rfl), by (with_reducible repeat (first | apply Kd.R_alloc | apply Kd.R_drewN | apply Kd.R_drew)); exact HO_5.out, by repeat (first | (with_reducible first | exact HB.out | apply below_alloc | apply pw_below_drewN | apply below_drew1 | refine below_set ?_ (IsS113.ge HI439.out)) | exact HB.out)⟩
        · rw [if_neg c25] at H
          have c25b0 : (t443 == 0) = false := beq_eq_false_iff_ne.mpr c25
          have c25b1 : (t443 != 0) = true := bne_iff_ne.mpr c25
          simp only [Option.some.injEq, Prod.mk.injEq] at H
          obtain ⟨rfl, rfl⟩ := H
          go_wp2_with (first | ((with_reducible refine gate_callee (f := 42) rfl ?_); refine goesL_ (some 10) rfl rfl Try.func42 (by kernel_rfl) rfl #[.pointer (some ⟨g439, 0, none⟩)] rfl (by (try simp only [List.map_toArray, List.map_cons, List.map_nil]); first | done | rfl | (simp only [List.length_drop, List.length_take]; rfl)) ?_; (with_reducible refine (octet_Reader_Left.calls g439 x440000_1 x440001_1 t440 t441 t442 w _ ?side1 ?side2 A4.out).mono ?_); (case side1 => repeat (first | (with_reducible first | exact HI439.out | apply IsS113.alloc | apply IsS113.drewN | apply IsS113.drew | apply IsS113.set_0 | apply IsS113.set_1) | exact HI439.out)); (case side2 => repeat (first | (with_reducible first | exact HB.out | apply below_alloc | apply pw_below_drewN | apply below_drew1 | refine below_set ?_ (IsS113.ge HI439.out)) | exact HB.out)); rintro e w28 ⟨rfl, hi, hb, hk⟩; refine ⟨_, rfl, ?_⟩; have n0_ := Aside0.mk (Kd.R_mono (Kd.R_keep (IsS113.apart (show IsS113 w _ g439 x440000_1 x440001_1 from by repeat (first | (with_reducible first | exact HI439.out | apply IsS113.alloc | apply IsS113.drewN | apply IsS113.drew | apply IsS113.set_0 | apply IsS113.set_1) | exact HI439.out)) (by (with_reducible repeat (first | apply Kd.R_alloc | apply Kd.R_drewN | apply Kd.R_drew)); exact HO_5.out) (by decide)) hk (fun _ h => h.2)) (fun _ h => h.1)); have n1_ := Aside0.mk (hb); have n2_ := Aside0.mk (hi); clear HO_5; clear HB; clear HI439; have HO_5 := n0_; have HB := n1_; have HI439 := n2_; clear n0_ n1_ n2_; (try clear hb); (try clear hb2); (try clear hk); (try clear hi)) | ((with_reducible refine gate_callee (f := 41) rfl ?_); refine goesL_ (some 23) rfl rfl Try.func41 (by kernel_rfl) rfl #[.pointer (some ⟨g439, 0, none⟩)] rfl (by (try simp only [List.map_toArray, List.map_cons, List.map_nil]); first | done | rfl | (simp only [List.length_drop, List.length_take]; rfl)) ?_; (with_reducible refine (octet_Reader_Err.calls g439 t441 t442 t443 t444 t445 w _ ?side1 ?side2 A24.out).mono ?_); (case side1 => repeat (first | (with_reducible first | exact HI439.out | apply IsS113.alloc | apply IsS113.drewN | apply IsS113.drew | apply IsS113.set_0 | apply IsS113.set_1) | exact HI439.out)); (case side2 => repeat (first | (with_reducible first | exact HB.out | apply below_alloc | apply pw_below_drewN | apply below_drew1 | refine below_set ?_ (IsS113.ge HI439.out)) | exact HB.out)); rintro e w29 ⟨rfl, hi, hb, hk⟩; refine ⟨_, rfl, ?_⟩; have n0_ := Aside0.mk (Kd.R_mono (Kd.R_keep (IsS113.apart (show IsS113 w _ g439 t441 t442 from by repeat (first | (with_reducible first | exact HI439.out | apply IsS113.alloc | apply IsS113.drewN | apply IsS113.drew | apply IsS113.set_0 | apply IsS113.set_1) | exact HI439.out)) (by (with_reducible repeat (first | apply Kd.R_alloc | apply Kd.R_drewN | apply Kd.R_drew)); exact HO_5.out) (by decide)) hk (fun _ h => h.2)) (fun _ h => h.1)); have n1_ := Aside0.mk (hb); have n2_ := Aside0.mk (hi); clear HO_5; clear HB; clear HI439; have HO_5 := n0_; have HB := n1_; have HI439 := n2_; clear n0_ n1_ n2_; (try clear hb); (try clear hb2); (try clear hk); (try clear hi)))
          go_ret2
          exact ⟨_, by first | rfl | (simp [errW_none, errW_some] <;> rfl) | (simp [*, errW_none, errW_some] <;> rfl), by first | exact Kd.R_nil _ _ _ _ _ | exact Kd.N_nil _ _ _ _ _ | exact Kd.V_nil _ _ _ _ _ | exact Kd.Q_nil _ _ _ _ _ | exact Kd.S_nil _ _ _ _ _, by repeat (first | (with_reducible first | exact HB.out | apply below_alloc | apply pw_below_drewN | apply below_drew1 | refine below_set ?_ (IsS113.ge HI439.out)) | exact HB.out)⟩

end Go.Proofs.Ytmdncojhnbbafaa.PAll
