-- Written by a program of this workplace (wip/mkprint2.py, over the kit's print) for this claim
import Derived.Test.YtmdncojhnbbafaaPAllx0
import Derived.Test.YtmdncojhnbbafaaPAllx2
import Derived.Test.YtmdncojhnbbafaaPAllx3
import Derived.Test.YtmdncojhnbbafaaPAllx11
import Derived.Test.YtmdncojhnbbafaaPAllx20
import Derived.Test.YtmdncojhnbbafaaPAllx27
import Derived.Test.YtmdncojhnbbafaaPAllx33
import Derived.Test.YtmdncojhnbbafaaPAllx34
import Derived.Test.YtmdncojhnbbafaaPAllx40
import Derived.Test.YtmdncojhnbbafaaPAllx41
import Derived.Test.YtmdncojhnbbafaaPAllx47
import Derived.Test.YtmdncojhnbbafaaPAllx48
namespace Go.Proofs.Ytmdncojhnbbafaa.PAll
open Go.RowKit Go.Proofs.YtmdncojhnbbafaaW.PrintWords Go.Proofs.YtmdncojhnbbafaaW.PrintLast Go.Proofs.YtmdncojhnbbafaaW.PrintMore
attribute [local go_sem] max2_int min2_int max_two min_two max_three min_three max_four min_four   -- for this text's walks alone
set_option linter.unusedVariables false
set_option linter.unusedSimpArgs false

attribute [local go_sem high] eqA65 eqA85
/-! ### crosswaylaw04_ParamReads: function 13 -/
def crosswaylaw04_ParamReads.j0 : Nat → ByteArray → List (S65) → Int → List (S85) → Int → Bool → Option (Bool)
  | 0, _, _, _, _, _, _ => none
  | k + 1, x3, x4, x5, x6, x7, x54 => if x54 = true then (some false) else ((crosswaylaw04_awake.f k).bind fun t610 => (if t610 = true then (if x5 = x7 then ((crosswaylaw04_same.f k x4 x6).bind fun t611 => (if t611 = true then (if x5 = 0 then ((param_PutAll.f k x4).bind fun t612 => (some (t612.toList == x3.toList))) else (some true)) else (some false))) else (some false)) else (some false)))
def crosswaylaw04_ParamReads.f (k : Nat) (a0 : ByteArray) : Option (Bool) := if 0 ≤ (mn (a0.size : Int) 300) then (if (mn (a0.size : Int) 300) ≤ (a0.size : Int) then ((param_All.f k (a0.extract 0 ((mn (a0.size : Int) 300) : Int).toNat)).bind fun bt582 => ((crosswayref04_All.f k (a0.extract 0 ((mn (a0.size : Int) 300) : Int).toNat)).bind fun bt586 => ((octet_New.f (a0.extract 0 ((mn (a0.size : Int) 300) : Int).toNat)).bind fun bt590 => ((param_Take.f k bt590.1 bt590.2).bind fun bt593 => ((crosswayref04_Take.f k (a0.extract 0 ((mn (a0.size : Int) 300) : Int).toNat) 0).bind fun bt598 => ((octet_Reader_Err.f bt593.2.2.1 bt593.2.2.2).bind fun bt604 => (if bt604.1 = bt598.2.1 then (if (!(bt593.1 == bt598.2.2.1) || (!(bt593.2.1.toList == bt598.2.2.2.toList))) = true then (crosswaylaw04_ParamReads.j0 k (a0.extract 0 ((mn (a0.size : Int) 300) : Int).toNat) bt582.1 bt582.2 bt586.1 bt586.2 true) else ((octet_Reader_Left.f bt604.2.1 bt604.2.2).bind fun bt607 => (crosswaylaw04_ParamReads.j0 k (a0.extract 0 ((mn (a0.size : Int) 300) : Int).toNat) bt582.1 bt582.2 bt586.1 bt586.2 (bt607.1 != (bt598.1.size : Int))))) else (crosswaylaw04_ParamReads.j0 k (a0.extract 0 ((mn (a0.size : Int) 300) : Int).toNat) bt582.1 bt582.2 bt586.1 bt586.2 true)))))))) else (none)) else (none)
theorem crosswaylaw04_ParamReads.mono_l : ∀ k, (∀ y0 y1 y2 y3 y4 y5, LeO (crosswaylaw04_ParamReads.j0 k y0 y1 y2 y3 y4 y5) (crosswaylaw04_ParamReads.j0 (k + 1) y0 y1 y2 y3 y4 y5))
  | 0 => fun _ _ _ _ _ _ r h => by simp [crosswaylaw04_ParamReads.j0] at h
  | k + 1 => by
    have ih0 := crosswaylaw04_ParamReads.mono_l k
    · intro y0 y1 y2 y3 y4 y5
      unfold crosswaylaw04_ParamReads.j0
      repeat' first
      | (with_reducible exact ih0 _ _ _ _ _ _)
      | (with_reducible exact crosswaylaw04_awake.mono _)
      | (with_reducible exact crosswaylaw04_same.mono _ _ _)
      | (with_reducible exact crosswayref04_All.mono _ _)
      | (with_reducible exact crosswayref04_Take.mono _ _ _)
      | (with_reducible exact param_All.mono _ _)
      | (with_reducible exact param_PutAll.mono _ _)
      | (with_reducible exact param_Take.mono _ _ _)
      | (with_reducible exact LeO.refl _)
      | (with_reducible exact LeO.none _)
      | (with_reducible refine LeO.ite ?_ ?_)
      | (with_reducible refine LeO.bind ?_ (fun _ => ?_))
      | exact ih0 _ _ _ _ _ _
      | exact crosswaylaw04_awake.mono _
      | exact crosswaylaw04_same.mono _ _ _
      | exact crosswayref04_All.mono _ _
      | exact crosswayref04_Take.mono _ _ _
      | exact param_All.mono _ _
      | exact param_PutAll.mono _ _
      | exact param_Take.mono _ _ _
      | exact LeO.none _
      | refine LeO.ite ?_ ?_
      | refine LeO.bind ?_ (fun _ => ?_)
theorem crosswaylaw04_ParamReads.mono : ∀ a0 k, LeO (crosswaylaw04_ParamReads.f k a0) (crosswaylaw04_ParamReads.f (k + 1) a0) := by
  intro a0 k
  have ih0 := crosswaylaw04_ParamReads.mono_l k
  unfold crosswaylaw04_ParamReads.f
  repeat' first
      | (with_reducible exact ih0 _ _ _ _ _ _)
      | (with_reducible exact crosswaylaw04_awake.mono _)
      | (with_reducible exact crosswaylaw04_same.mono _ _ _)
      | (with_reducible exact crosswayref04_All.mono _ _)
      | (with_reducible exact crosswayref04_Take.mono _ _ _)
      | (with_reducible exact param_All.mono _ _)
      | (with_reducible exact param_PutAll.mono _ _)
      | (with_reducible exact param_Take.mono _ _ _)
      | (with_reducible exact LeO.refl _)
      | (with_reducible exact LeO.none _)
      | (with_reducible refine LeO.ite ?_ ?_)
      | (with_reducible refine LeO.bind ?_ (fun _ => ?_))
      | exact ih0 _ _ _ _ _ _
      | exact crosswaylaw04_awake.mono _
      | exact crosswaylaw04_same.mono _ _ _
      | exact crosswayref04_All.mono _ _
      | exact crosswayref04_Take.mono _ _ _
      | exact param_All.mono _ _
      | exact param_PutAll.mono _ _
      | exact param_Take.mono _ _ _
      | exact LeO.none _
      | refine LeO.ite ?_ ?_
      | refine LeO.bind ?_ (fun _ => ?_)
def crosswaylaw04_ParamReads.T7 : Bool × List (List Nat × List Nat) := (true, [([], []), ([0], [0]), ([], []), ([2], [2]), ([1, 3], [1, 3]), ([4, 1], [4]), ([5], [5]), ([5], [5]), ([6, 7, 5], [5, 6, 7]), ([5, 8], [5, 8]), ([9, 5], [9]), ([10], [10]), ([11, 10, 10], [10, 11]), ([10], [10]), ([13, 10], [10, 13]), ([14, 10], [10, 14]), ([12, 15, 10], [10, 12, 15]), ([10, 16], [10, 16])])
def crosswaylaw04_ParamReads.B7 : List Nat := [0, 1, 0, 4, 15, 31, 63, 63, 255, 511, 1023, 2047, 4095, 2047, 10239, 26623, 65535, 131071]
theorem crosswaylaw04_ParamReads.tab7 : rtab .any (opsOf Try.f13 7) = crosswaylaw04_ParamReads.T7 := by kernel_rfl
theorem crosswaylaw04_ParamReads.bits7 : waitsOk crosswaylaw04_ParamReads.T7.2 crosswaylaw04_ParamReads.B7 = true := by kernel_rfl
set_option maxHeartbeats 8000000 in
set_option maxRecDepth 100000 in
theorem crosswaylaw04_ParamReads.calls (k : Nat) (a0 : ByteArray) (r : Bool) (w : World) (h : crosswaylaw04_ParamReads.f k a0 = some r) :
    Calls Try.prog 13 #[.string a0] w fun e w' => e = .returned (.bool r) ∧ Below w.heap.size w w' := by
  have hu65 := Try.underlying65
  have hu45 := Try.underlying45
  have hu85 := Try.underlying85
  have HB := Aside0.mk (Below.refl w.heap.size w)
  have H : (if 0 ≤ (mn (a0.size : Int) 300) then (if (mn (a0.size : Int) 300) ≤ (a0.size : Int) then ((param_All.f k (a0.extract 0 ((mn (a0.size : Int) 300) : Int).toNat)).bind fun bt582 => ((crosswayref04_All.f k (a0.extract 0 ((mn (a0.size : Int) 300) : Int).toNat)).bind fun bt586 => ((octet_New.f (a0.extract 0 ((mn (a0.size : Int) 300) : Int).toNat)).bind fun bt590 => ((param_Take.f k bt590.1 bt590.2).bind fun bt593 => ((crosswayref04_Take.f k (a0.extract 0 ((mn (a0.size : Int) 300) : Int).toNat) 0).bind fun bt598 => ((octet_Reader_Err.f bt593.2.2.1 bt593.2.2.2).bind fun bt604 => (if bt604.1 = bt598.2.1 then (if (!(bt593.1 == bt598.2.2.1) || (!(bt593.2.1.toList == bt598.2.2.2.toList))) = true then (crosswaylaw04_ParamReads.j0 k (a0.extract 0 ((mn (a0.size : Int) 300) : Int).toNat) bt582.1 bt582.2 bt586.1 bt586.2 true) else ((octet_Reader_Left.f bt604.2.1 bt604.2.2).bind fun bt607 => (crosswaylaw04_ParamReads.j0 k (a0.extract 0 ((mn (a0.size : Int) 300) : Int).toNat) bt582.1 bt582.2 bt586.1 bt586.2 (bt607.1 != (bt598.1.size : Int))))) else (crosswaylaw04_ParamReads.j0 k (a0.extract 0 ((mn (a0.size : Int) 300) : Int).toNat) bt582.1 bt582.2 bt586.1 bt586.2 true)))))))) else (none)) else (none)) = some r := h
  clear h
  obtain ⟨ji2, hji2⟩ : ∃ j_ : Int, (mn (a0.size : Int) 300) = j_ := ⟨_, rfl⟩
  replace H : (if 0 ≤ (ji2) then (if (ji2) ≤ (a0.size : Int) then ((param_All.f k (a0.extract 0 ((ji2) : Int).toNat)).bind fun bt582 => ((crosswayref04_All.f k (a0.extract 0 ((ji2) : Int).toNat)).bind fun bt586 => ((octet_New.f (a0.extract 0 ((ji2) : Int).toNat)).bind fun bt590 => ((param_Take.f k bt590.1 bt590.2).bind fun bt593 => ((crosswayref04_Take.f k (a0.extract 0 ((ji2) : Int).toNat) 0).bind fun bt598 => ((octet_Reader_Err.f bt593.2.2.1 bt593.2.2.2).bind fun bt604 => (if bt604.1 = bt598.2.1 then (if (!(bt593.1 == bt598.2.2.1) || (!(bt593.2.1.toList == bt598.2.2.2.toList))) = true then (crosswaylaw04_ParamReads.j0 k (a0.extract 0 ((ji2) : Int).toNat) bt582.1 bt582.2 bt586.1 bt586.2 true) else ((octet_Reader_Left.f bt604.2.1 bt604.2.2).bind fun bt607 => (crosswaylaw04_ParamReads.j0 k (a0.extract 0 ((ji2) : Int).toNat) bt582.1 bt582.2 bt586.1 bt586.2 (bt607.1 != (bt598.1.size : Int))))) else (crosswaylaw04_ParamReads.j0 k (a0.extract 0 ((ji2) : Int).toNat) bt582.1 bt582.2 bt586.1 bt586.2 true)))))))) else (none)) else (none)) = some r := by first | (rw [hji2] at H; exact H) | (simp only [hji2] at H ⊢; exact H)
  (try (have hji2h : ji2 ≤ 300 := by (rw [← hji2]; unfold mn; (repeat' split) <;> omega)))
  (try (have hji2g : ji2 ≤ 64 := by omega))
  (try (have hji2l : 0 ≤ ji2 := by (rw [← hji2]; unfold mn; (repeat' split) <;> omega)))
  (try (have hji2m : 0 ≤ ji2 := by omega))
  have hji2_ : (if 300 < (a0.size : Int) then 300 else (a0.size : Int)) = ji2 := hji2
  by_cases c3 : 0 ≤ (ji2)
  · rw [if_pos c3] at H
    have c3b0 := eq_true c3
    have c3b1 : decide (0 ≤ (ji2)) = true := decide_eq_true c3
    clear c3
    by_cases c4 : (ji2) ≤ (a0.size : Int)
    · rw [if_pos c4] at H
      have c4b0 := eq_true c4
      have c4b1 : decide ((ji2) ≤ (a0.size : Int)) = true := decide_eq_true c4
      clear c4
      obtain ⟨st5, hst5⟩ : ∃ j_ : ByteArray, (a0.extract 0 ((ji2) : Int).toNat) = j_ := ⟨_, rfl⟩
      replace H : ((param_All.f k st5).bind fun bt582 => ((crosswayref04_All.f k st5).bind fun bt586 => ((octet_New.f st5).bind fun bt590 => ((param_Take.f k bt590.1 bt590.2).bind fun bt593 => ((crosswayref04_Take.f k st5 0).bind fun bt598 => ((octet_Reader_Err.f bt593.2.2.1 bt593.2.2.2).bind fun bt604 => (if bt604.1 = bt598.2.1 then (if (!(bt593.1 == bt598.2.2.1) || (!(bt593.2.1.toList == bt598.2.2.2.toList))) = true then (crosswaylaw04_ParamReads.j0 k st5 bt582.1 bt582.2 bt586.1 bt586.2 true) else ((octet_Reader_Left.f bt604.2.1 bt604.2.2).bind fun bt607 => (crosswaylaw04_ParamReads.j0 k st5 bt582.1 bt582.2 bt586.1 bt586.2 (bt607.1 != (bt598.1.size : Int))))) else (crosswaylaw04_ParamReads.j0 k st5 bt582.1 bt582.2 bt586.1 bt586.2 true)))))))) = some r := by first | (rw [hst5] at H; exact H) | (simp only [hst5] at H ⊢; exact H) | exact H
      replace H := Option.bind_eq_some_iff.mp H
      obtain ⟨⟨t582, t583⟩, A60, H⟩ := H
      replace H : ((crosswayref04_All.f k st5).bind fun bt586 => ((octet_New.f st5).bind fun bt590 => ((param_Take.f k bt590.1 bt590.2).bind fun bt593 => ((crosswayref04_Take.f k st5 0).bind fun bt598 => ((octet_Reader_Err.f bt593.2.2.1 bt593.2.2.2).bind fun bt604 => (if bt604.1 = bt598.2.1 then (if (!(bt593.1 == bt598.2.2.1) || (!(bt593.2.1.toList == bt598.2.2.2.toList))) = true then (crosswaylaw04_ParamReads.j0 k st5 t582 t583 bt586.1 bt586.2 true) else ((octet_Reader_Left.f bt604.2.1 bt604.2.2).bind fun bt607 => (crosswaylaw04_ParamReads.j0 k st5 t582 t583 bt586.1 bt586.2 (bt607.1 != (bt598.1.size : Int))))) else (crosswaylaw04_ParamReads.j0 k st5 t582 t583 bt586.1 bt586.2 true))))))) = some r := H
      have A6 := Aside0.mk A60
      clear A60
      replace H := Option.bind_eq_some_iff.mp H
      obtain ⟨⟨t586, t587⟩, A70, H⟩ := H
      replace H : ((octet_New.f st5).bind fun bt590 => ((param_Take.f k bt590.1 bt590.2).bind fun bt593 => ((crosswayref04_Take.f k st5 0).bind fun bt598 => ((octet_Reader_Err.f bt593.2.2.1 bt593.2.2.2).bind fun bt604 => (if bt604.1 = bt598.2.1 then (if (!(bt593.1 == bt598.2.2.1) || (!(bt593.2.1.toList == bt598.2.2.2.toList))) = true then (crosswaylaw04_ParamReads.j0 k st5 t582 t583 t586 t587 true) else ((octet_Reader_Left.f bt604.2.1 bt604.2.2).bind fun bt607 => (crosswaylaw04_ParamReads.j0 k st5 t582 t583 t586 t587 (bt607.1 != (bt598.1.size : Int))))) else (crosswaylaw04_ParamReads.j0 k st5 t582 t583 t586 t587 true)))))) = some r := H
      have A7 := Aside0.mk A70
      clear A70
      replace H := Option.bind_eq_some_iff.mp H
      obtain ⟨⟨t590, t591⟩, A80, H⟩ := H
      replace H : ((param_Take.f k t590 t591).bind fun bt593 => ((crosswayref04_Take.f k st5 0).bind fun bt598 => ((octet_Reader_Err.f bt593.2.2.1 bt593.2.2.2).bind fun bt604 => (if bt604.1 = bt598.2.1 then (if (!(bt593.1 == bt598.2.2.1) || (!(bt593.2.1.toList == bt598.2.2.2.toList))) = true then (crosswaylaw04_ParamReads.j0 k st5 t582 t583 t586 t587 true) else ((octet_Reader_Left.f bt604.2.1 bt604.2.2).bind fun bt607 => (crosswaylaw04_ParamReads.j0 k st5 t582 t583 t586 t587 (bt607.1 != (bt598.1.size : Int))))) else (crosswaylaw04_ParamReads.j0 k st5 t582 t583 t586 t587 true))))) = some r := H
      have A8 := Aside0.mk A80
      clear A80
      replace H := Option.bind_eq_some_iff.mp H
      obtain ⟨⟨t593, t594, t595, t596⟩, A90, H⟩ := H
      replace H : ((crosswayref04_Take.f k st5 0).bind fun bt598 => ((octet_Reader_Err.f t595 t596).bind fun bt604 => (if bt604.1 = bt598.2.1 then (if (!(t593 == bt598.2.2.1) || (!(t594.toList == bt598.2.2.2.toList))) = true then (crosswaylaw04_ParamReads.j0 k st5 t582 t583 t586 t587 true) else ((octet_Reader_Left.f bt604.2.1 bt604.2.2).bind fun bt607 => (crosswaylaw04_ParamReads.j0 k st5 t582 t583 t586 t587 (bt607.1 != (bt598.1.size : Int))))) else (crosswaylaw04_ParamReads.j0 k st5 t582 t583 t586 t587 true)))) = some r := H
      have A9 := Aside0.mk A90
      clear A90
      replace H := Option.bind_eq_some_iff.mp H
      obtain ⟨⟨t598, t599, t600, t601⟩, A100, H⟩ := H
      replace H : ((octet_Reader_Err.f t595 t596).bind fun bt604 => (if bt604.1 = t599 then (if (!(t593 == t600) || (!(t594.toList == t601.toList))) = true then (crosswaylaw04_ParamReads.j0 k st5 t582 t583 t586 t587 true) else ((octet_Reader_Left.f bt604.2.1 bt604.2.2).bind fun bt607 => (crosswaylaw04_ParamReads.j0 k st5 t582 t583 t586 t587 (bt607.1 != (t598.size : Int))))) else (crosswaylaw04_ParamReads.j0 k st5 t582 t583 t586 t587 true))) = some r := H
      have A10 := Aside0.mk A100
      clear A100
      have HC11 := Aside0.mk H
      clear H
      go_enter Try.func13, Try.ntmps13
      go_upto_region 7 with (first | ((with_reducible refine gate_callee (f := 54) rfl ?_); refine goesL_ (some 19) rfl rfl Try.func54 (by kernel_rfl) rfl #[.string st5] rfl (by (try simp only [List.map_toArray, List.map_cons, List.map_nil]); first | done | rfl | (simp only [List.length_drop, List.length_take]; rfl)) ?_; (with_reducible refine (param_All.calls k st5 t582 t583 _ A6.out).mono ?_); rintro e w12 ⟨v584, rfl, ho0, hb⟩; refine ⟨_, rfl, ?_⟩; have n0_ := Aside0.mk (Kd.R_lower ho0 (below_size (by repeat (first | (with_reducible first | exact HB.out | apply below_alloc | apply pw_below_drewN | apply below_drew1) | exact HB.out)))); have n1_ := Aside0.mk (below_step (by repeat (first | (with_reducible first | exact HB.out | apply below_alloc | apply pw_below_drewN | apply below_drew1) | exact HB.out)) hb); clear HB; have HO585 := n0_; have HB := n1_; clear n0_ n1_; (try clear hb); (try clear hb2); (try clear hk); (try clear hi); (try clear ho0)) | ((with_reducible refine gate_callee (f := 59) rfl ?_); refine goesL_ (some 24) rfl rfl Try.func59 (by kernel_rfl) rfl #[.string st5] rfl (by (try simp only [List.map_toArray, List.map_cons, List.map_nil]); first | done | rfl | (simp only [List.length_drop, List.length_take]; rfl)) ?_; (with_reducible refine (crosswayref04_All.calls k st5 t586 t587 _ A7.out).mono ?_); rintro e w13 ⟨v588, rfl, ho0, hb⟩; refine ⟨_, rfl, ?_⟩; have n0_ := Aside0.mk (Kd.R_below (by (with_reducible repeat (first | apply Kd.R_alloc | apply Kd.R_drewN | apply Kd.R_drew)); exact HO585.out) hb); have n1_ := Aside0.mk (Kd.R_lower ho0 (below_size (by repeat (first | (with_reducible first | exact HB.out | apply below_alloc | apply pw_below_drewN | apply below_drew1) | exact HB.out)))); have n2_ := Aside0.mk (below_step (by repeat (first | (with_reducible first | exact HB.out | apply below_alloc | apply pw_below_drewN | apply below_drew1) | exact HB.out)) hb); clear HO585; clear HB; have HO585 := n0_; have HO589 := n1_; have HB := n2_; clear n0_ n1_ n2_; (try clear hb); (try clear hb2); (try clear hk); (try clear hi); (try clear ho0)) | ((with_reducible refine gate_callee (f := 30) rfl ?_); refine goesL_ (some 28) rfl rfl Try.func30 (by kernel_rfl) rfl #[.string st5] rfl (by (try simp only [List.map_toArray, List.map_cons, List.map_nil]); first | done | rfl | (simp only [List.length_drop, List.length_take]; rfl)) ?_; (with_reducible refine (octet_New.calls st5 t590 t591 w _ ?side1 A8.out).mono ?_); (case side1 => repeat (first | (with_reducible first | exact HB.out | apply below_alloc | apply pw_below_drewN | apply below_drew1) | exact HB.out)); rintro e w14 ⟨g592, rfl, hi, hb, hb2⟩; refine ⟨_, rfl, ?_⟩; have n0_ := Aside0.mk (Kd.R_below (by (with_reducible repeat (first | apply Kd.R_alloc | apply Kd.R_drewN | apply Kd.R_drew)); exact HO585.out) hb2); have n1_ := Aside0.mk (Kd.R_below (by (with_reducible repeat (first | apply Kd.R_alloc | apply Kd.R_drewN | apply Kd.R_drew)); exact HO589.out) hb2); have n2_ := Aside0.mk (hb); have n3_ := Aside0.mk (hi); clear HO585; clear HO589; clear HB; have HO585 := n0_; have HO589 := n1_; have HB := n2_; have HI592 := n3_; clear n0_ n1_ n2_ n3_; (try clear hb); (try clear hb2); (try clear hk); (try clear hi)) | ((with_reducible refine gate_callee (f := 64) rfl ?_); refine goesL_ (some 30) rfl rfl Try.func64 (by kernel_rfl) rfl #[.pointer (some ⟨g592, 0, none⟩)] rfl (by (try simp only [List.map_toArray, List.map_cons, List.map_nil]); first | done | rfl | (simp only [List.length_drop, List.length_take]; rfl)) ?_; (with_reducible refine (param_Take.calls k g592 t590 t591 t593 t594 t595 t596 w _ ?side1 ?side2 A9.out).mono ?_); (case side1 => repeat (first | (with_reducible first | exact HI592.out | apply IsS113.alloc | apply IsS113.drewN | apply IsS113.drew | apply IsS113.set_0 | apply IsS113.set_1) | exact HI592.out)); (case side2 => repeat (first | (with_reducible first | exact HB.out | apply below_alloc | apply pw_below_drewN | apply below_drew1 | refine below_set ?_ (IsS113.ge HI592.out)) | exact HB.out)); rintro e w15 ⟨rfl, hi, hb, hk⟩; refine ⟨_, rfl, ?_⟩; have n0_ := Aside0.mk (Kd.R_mono (Kd.R_keep (IsS113.apart (show IsS113 w _ g592 t590 t591 from by repeat (first | (with_reducible first | exact HI592.out | apply IsS113.alloc | apply IsS113.drewN | apply IsS113.drew | apply IsS113.set_0 | apply IsS113.set_1) | exact HI592.out)) (by (with_reducible repeat (first | apply Kd.R_alloc | apply Kd.R_drewN | apply Kd.R_drew)); exact HO585.out) (by decide)) hk (fun _ h => h.2)) (fun _ h => h.1)); have n1_ := Aside0.mk (Kd.R_mono (Kd.R_keep (IsS113.apart (show IsS113 w _ g592 t590 t591 from by repeat (first | (with_reducible first | exact HI592.out | apply IsS113.alloc | apply IsS113.drewN | apply IsS113.drew | apply IsS113.set_0 | apply IsS113.set_1) | exact HI592.out)) (by (with_reducible repeat (first | apply Kd.R_alloc | apply Kd.R_drewN | apply Kd.R_drew)); exact HO589.out) (by decide)) hk (fun _ h => h.2)) (fun _ h => h.1)); have n2_ := Aside0.mk (hb); have n3_ := Aside0.mk (hi); clear HO585; clear HO589; clear HB; clear HI592; have HO585 := n0_; have HO589 := n1_; have HB := n2_; have HI592 := n3_; clear n0_ n1_ n2_ n3_; (try clear hb); (try clear hb2); (try clear hk); (try clear hi)) | ((with_reducible refine gate_dst (N := 9) rfl ?_); (try (refine gate_guard (by rfl) ?_; dsimp only)); refine box_event ?hg (N := 9) ?hd (cs := #[.int .i64 0, .string (⟨#[]⟩ : ByteArray)]) (t := 65) ?hr ?_; (case hd => rfl); (case hg => rfl); (case hr => first | (go_simp; done) | (go_simp; rfl)); intro gb597 hg w16 hbox hb; have n0_ := Aside0.mk (Kd.R_below (Kd.R_elderB (by (with_reducible repeat (first | apply Kd.R_alloc | apply Kd.R_drewN | apply Kd.R_drew)); exact HO585.out) gb597 (Nat.le_of_eq hg.symm)) hb); have n1_ := Aside0.mk (Kd.R_below (by (with_reducible repeat (first | apply Kd.R_alloc | apply Kd.R_drewN | apply Kd.R_drew)); exact HO589.out) hb); have n2_ := Aside0.mk (IsS113.below (by repeat (first | (with_reducible first | exact HI592.out | apply IsS113.alloc | apply IsS113.drewN | apply IsS113.drew | apply IsS113.set_0 | apply IsS113.set_1) | exact HI592.out)) hb); have n3_ := Aside0.mk (below_step (by repeat (first | (with_reducible first | exact HB.out | apply below_alloc | apply pw_below_drewN | apply below_drew1 | refine below_set ?_ (IsS113.ge HI592.out)) | exact HB.out)) hb); have n4_ := Aside0.mk (hbox); have n5_ := Aside0.mk ((by rw [hg]; exact (below_size (by repeat (first | (with_reducible first | exact HB.out | apply below_alloc | apply pw_below_drewN | apply below_drew1 | refine below_set ?_ (IsS113.ge HI592.out)) | exact HB.out))) : w.heap.size ≤ gb597)); have n6_ := Aside0.mk ((by rw [hg]; exact (below_size (by repeat (first | (with_reducible first | exact HB.out | apply below_alloc | apply pw_below_drewN | apply below_drew1 | refine below_set ?_ (IsS113.ge HI592.out)) | exact HB.out))) : w.heap.size ≤ gb597)); have n7_ := Aside0.mk ((by rw [hg]; exact Nat.ne_of_lt (IsS113.lt (show IsS113 w _ g592 t595 t596 from by repeat (first | (with_reducible first | exact HI592.out | apply IsS113.alloc | apply IsS113.drewN | apply IsS113.drew | apply IsS113.set_0 | apply IsS113.set_1) | exact HI592.out))) : g592 ≠ gb597)); have n8_ := Aside0.mk ((by rw [hg]; exact Nat.ne_of_gt (IsS113.lt (show IsS113 w _ g592 t595 t596 from by repeat (first | (with_reducible first | exact HI592.out | apply IsS113.alloc | apply IsS113.drewN | apply IsS113.drew | apply IsS113.set_0 | apply IsS113.set_1) | exact HI592.out))) : gb597 ≠ g592)); clear HO585; clear HO589; clear HI592; clear HB; have HO585 := n0_; have HO589 := n1_; have HI592 := n2_; have HB := n3_; have BK597 := n4_; have GW597 := n5_; have GE597 := n6_; have NB592_597 := n7_; have NB597_592 := n8_; clear n0_ n1_ n2_ n3_ n4_ n5_ n6_ n7_ n8_; clear hb hbox hg; have hnb17 := NB597_592.out; have hnc17 := NB592_597.out; have hcz18_0 : w16.cell? ⟨gb597, 0, none⟩ = some (.int .i64 0) := (blk_cell BK597.out 0).trans rfl; have hcz18_1 : w16.cell? ⟨gb597, 1, none⟩ = some (.string (⟨#[]⟩ : ByteArray)) := (blk_cell BK597.out 1).trans rfl; have hfz18_0 := blk_frozen BK597.out 0; have hfz18_1 := blk_frozen BK597.out 1) | ((with_reducible refine gate_callee (f := 65) rfl ?_); refine goesL_ (some 34) rfl rfl Try.func65 (by kernel_rfl) rfl #[.agg #[.string st5, .int .i64 0]] rfl (by (try simp only [List.map_toArray, List.map_cons, List.map_nil]); first | done | rfl | (simp only [List.length_drop, List.length_take]; rfl)) ?_; (with_reducible refine (crosswayref04_Take.calls k st5 0 t598 t599 t600 t601 _ A10.out).mono ?_); rintro e w19 ⟨rfl, hb⟩; refine ⟨_, rfl, ?_⟩; have n0_ := Aside0.mk (Kd.R_below (by (with_reducible repeat (first | apply Kd.R_alloc | apply Kd.R_drewN | apply Kd.R_drew)); exact (Kd.R_mono (Kd.R_far (p := ⟨gb597, 1, none⟩) (Kd.R_far (p := ⟨gb597, 0, none⟩) (Kd.R_mono HO585.out (fun k_ hk => (⟨hk, hk.2⟩ : _ ∧ k_ ≠ gb597))) (fun _ hk => hk.2) (.int .i64 t593)) (fun _ hk => hk.2) (.string t594)) (fun _ h_ => h_.1))) hb); have n1_ := Aside0.mk (Kd.R_below (by (with_reducible repeat (first | apply Kd.R_alloc | apply Kd.R_drewN | apply Kd.R_drew)); exact (Kd.R_mono (Kd.R_far (p := ⟨gb597, 1, none⟩) (Kd.R_far (p := ⟨gb597, 0, none⟩) (Kd.R_types HO589.out BK597.out (by decide)) (fun _ hk => hk.2) (.int .i64 t593)) (fun _ hk => hk.2) (.string t594)) (fun _ h_ => h_.1))) hb); have n2_ := Aside0.mk (IsS113.below (show IsS113 w ((w16.setCell ⟨gb597, 0, none⟩ (.int .i64 t593)).setCell ⟨gb597, 1, none⟩ (.string t594)) g592 t595 t596 from by repeat (first | (with_reducible first | exact HI592.out | apply IsS113.alloc | apply IsS113.drewN | apply IsS113.drew | apply IsS113.set_0 | apply IsS113.set_1 | refine IsS113.far ?_ NB592_597.out _) | exact HI592.out)) hb); have n3_ := Aside0.mk (blk_below (g := gb597) (o := .cells #[.int .i64 t593, .string t594] 65 (0, 0)) (by (with_reducible repeat (first | refine blk_drewN ?_ _ | refine blk_drew ?_ | refine blk_alloc ?_ _)); refine blk_put (cs := #[.int .i64 t593, .string (⟨#[]⟩ : ByteArray)]) ?_ 1 _ rfl; (with_reducible repeat (first | refine blk_drewN ?_ _ | refine blk_drew ?_ | refine blk_alloc ?_ _)); refine blk_put (cs := #[.int .i64 0, .string (⟨#[]⟩ : ByteArray)]) ?_ 0 _ rfl; (with_reducible repeat (first | refine blk_drewN ?_ _ | refine blk_drew ?_ | refine blk_alloc ?_ _)); exact BK597.out) hb); have n4_ := Aside0.mk (below_step (by repeat (first | (with_reducible first | exact HB.out | apply below_alloc | apply pw_below_drewN | apply below_drew1 | refine below_set ?_ (IsS113.ge HI592.out) | refine below_set ?_ GE597.out) | exact HB.out)) hb); clear HO585; clear HO589; clear HI592; clear BK597; clear HB; have HO585 := n0_; have HO589 := n1_; have HI592 := n2_; have BK597 := n3_; have HB := n4_; clear n0_ n1_ n2_ n3_ n4_; (try clear hb); (try clear hb2); (try clear hk); (try clear hi)) | ((with_reducible refine gate_dst (N := 10) rfl ?_); (try (refine gate_guard (by rfl) ?_; dsimp only)); refine box_event ?hg (N := 10) ?hd (cs := #[.string (⟨#[]⟩ : ByteArray), .int .i64 0]) (t := 45) ?hr ?_; (case hd => rfl); (case hg => rfl); (case hr => first | (go_simp; done) | (go_simp; rfl)); intro gb602 hg w20 hbox hb; have n0_ := Aside0.mk (Kd.R_below (by (with_reducible repeat (first | apply Kd.R_alloc | apply Kd.R_drewN | apply Kd.R_drew)); exact HO585.out) hb); have n1_ := Aside0.mk (Kd.R_below (by (with_reducible repeat (first | apply Kd.R_alloc | apply Kd.R_drewN | apply Kd.R_drew)); exact HO589.out) hb); have n2_ := Aside0.mk (IsS113.below (by repeat (first | (with_reducible first | exact HI592.out | apply IsS113.alloc | apply IsS113.drewN | apply IsS113.drew | apply IsS113.set_0 | apply IsS113.set_1 | refine IsS113.far ?_ NB592_597.out _) | exact HI592.out)) hb); have n3_ := Aside0.mk (blk_below (g := gb597) (o := .cells #[.int .i64 t593, .string t594] 65 (0, 0)) (by (with_reducible repeat (first | refine blk_drewN ?_ _ | refine blk_drew ?_ | refine blk_alloc ?_ _)); exact BK597.out) hb); have n4_ := Aside0.mk (below_step (by repeat (first | (with_reducible first | exact HB.out | apply below_alloc | apply pw_below_drewN | apply below_drew1 | refine below_set ?_ (IsS113.ge HI592.out) | refine below_set ?_ GE597.out) | exact HB.out)) hb); have n5_ := Aside0.mk (hbox); have n6_ := Aside0.mk ((by rw [hg]; exact (below_size (by repeat (first | (with_reducible first | exact HB.out | apply below_alloc | apply pw_below_drewN | apply below_drew1 | refine below_set ?_ (IsS113.ge HI592.out) | refine below_set ?_ GE597.out) | exact HB.out))) : w.heap.size ≤ gb602)); have n7_ := Aside0.mk ((by rw [hg]; exact (below_size (by repeat (first | (with_reducible first | exact HB.out | apply below_alloc | apply pw_below_drewN | apply below_drew1 | refine below_set ?_ (IsS113.ge HI592.out) | refine below_set ?_ GE597.out) | exact HB.out))) : w.heap.size ≤ gb602)); have n8_ := Aside0.mk ((by rw [hg]; exact Nat.ne_of_lt (blk_lt (g := gb597) (o := .cells #[.int .i64 t593, .string t594] 65 (0, 0)) (by (with_reducible repeat (first | refine blk_drewN ?_ _ | refine blk_drew ?_ | refine blk_alloc ?_ _)); exact BK597.out)) : gb597 ≠ gb602)); have n9_ := Aside0.mk ((by rw [hg]; exact Nat.ne_of_gt (blk_lt (g := gb597) (o := .cells #[.int .i64 t593, .string t594] 65 (0, 0)) (by (with_reducible repeat (first | refine blk_drewN ?_ _ | refine blk_drew ?_ | refine blk_alloc ?_ _)); exact BK597.out)) : gb602 ≠ gb597)); have n10_ := Aside0.mk ((by rw [hg]; exact Nat.ne_of_lt (IsS113.lt (show IsS113 w _ g592 t595 t596 from by repeat (first | (with_reducible first | exact HI592.out | apply IsS113.alloc | apply IsS113.drewN | apply IsS113.drew | apply IsS113.set_0 | apply IsS113.set_1 | refine IsS113.far ?_ NB592_597.out _) | exact HI592.out))) : g592 ≠ gb602)); have n11_ := Aside0.mk ((by rw [hg]; exact Nat.ne_of_gt (IsS113.lt (show IsS113 w _ g592 t595 t596 from by repeat (first | (with_reducible first | exact HI592.out | apply IsS113.alloc | apply IsS113.drewN | apply IsS113.drew | apply IsS113.set_0 | apply IsS113.set_1 | refine IsS113.far ?_ NB592_597.out _) | exact HI592.out))) : gb602 ≠ g592)); clear HO585; clear HO589; clear HI592; clear BK597; clear HB; have HO585 := n0_; have HO589 := n1_; have HI592 := n2_; have BK597 := n3_; have HB := n4_; have BK602 := n5_; have GW602 := n6_; have GE602 := n7_; have NB597_602 := n8_; have NB602_597 := n9_; have NB592_602 := n10_; have NB602_592 := n11_; clear n0_ n1_ n2_ n3_ n4_ n5_ n6_ n7_ n8_ n9_ n10_ n11_; clear hb hbox hg) | ((with_reducible refine gate_dst (N := 11) rfl ?_); (try (refine gate_guard (by rfl) ?_; dsimp only)); refine box_event ?hg (N := 11) ?hd (cs := #[.int .i64 0, .string (⟨#[]⟩ : ByteArray)]) (t := 85) ?hr ?_; (case hd => rfl); (case hg => rfl); (case hr => first | (go_simp; done) | (go_simp; rfl)); intro gb603 hg w21 hbox hb; have n0_ := Aside0.mk (Kd.R_below (by (with_reducible repeat (first | apply Kd.R_alloc | apply Kd.R_drewN | apply Kd.R_drew)); exact HO585.out) hb); have n1_ := Aside0.mk (Kd.R_below (Kd.R_elderB (by (with_reducible repeat (first | apply Kd.R_alloc | apply Kd.R_drewN | apply Kd.R_drew)); exact HO589.out) gb603 (Nat.le_of_eq hg.symm)) hb); have n2_ := Aside0.mk (IsS113.below (by repeat (first | (with_reducible first | exact HI592.out | apply IsS113.alloc | apply IsS113.drewN | apply IsS113.drew | apply IsS113.set_0 | apply IsS113.set_1 | refine IsS113.far ?_ NB592_597.out _ | refine IsS113.far ?_ NB592_602.out _) | exact HI592.out)) hb); have n3_ := Aside0.mk (blk_below (g := gb597) (o := .cells #[.int .i64 t593, .string t594] 65 (0, 0)) (by (with_reducible repeat (first | refine blk_drewN ?_ _ | refine blk_drew ?_ | refine blk_alloc ?_ _)); exact BK597.out) hb); have n4_ := Aside0.mk (blk_below (g := gb602) (o := .cells #[.string (⟨#[]⟩ : ByteArray), .int .i64 0] 45 (0, 0)) (by (with_reducible repeat (first | refine blk_drewN ?_ _ | refine blk_drew ?_ | refine blk_alloc ?_ _)); exact BK602.out) hb); have n5_ := Aside0.mk (below_step (by repeat (first | (with_reducible first | exact HB.out | apply below_alloc | apply pw_below_drewN | apply below_drew1 | refine below_set ?_ (IsS113.ge HI592.out) | refine below_set ?_ GE597.out | refine below_set ?_ GE602.out) | exact HB.out)) hb); have n6_ := Aside0.mk (hbox); have n7_ := Aside0.mk ((by rw [hg]; exact (below_size (by repeat (first | (with_reducible first | exact HB.out | apply below_alloc | apply pw_below_drewN | apply below_drew1 | refine below_set ?_ (IsS113.ge HI592.out) | refine below_set ?_ GE597.out | refine below_set ?_ GE602.out) | exact HB.out))) : w.heap.size ≤ gb603)); have n8_ := Aside0.mk ((by rw [hg]; exact (below_size (by repeat (first | (with_reducible first | exact HB.out | apply below_alloc | apply pw_below_drewN | apply below_drew1 | refine below_set ?_ (IsS113.ge HI592.out) | refine below_set ?_ GE597.out | refine below_set ?_ GE602.out) | exact HB.out))) : w.heap.size ≤ gb603)); have n9_ := Aside0.mk ((by rw [hg]; exact Nat.ne_of_lt (blk_lt (g := gb597) (o := .cells #[.int .i64 t593, .string t594] 65 (0, 0)) (by (with_reducible repeat (first | refine blk_drewN ?_ _ | refine blk_drew ?_ | refine blk_alloc ?_ _)); exact BK597.out)) : gb597 ≠ gb603)); have n10_ := Aside0.mk ((by rw [hg]; exact Nat.ne_of_gt (blk_lt (g := gb597) (o := .cells #[.int .i64 t593, .string t594] 65 (0, 0)) (by (with_reducible repeat (first | refine blk_drewN ?_ _ | refine blk_drew ?_ | refine blk_alloc ?_ _)); exact BK597.out)) : gb603 ≠ gb597)); have n11_ := Aside0.mk ((by rw [hg]; exact Nat.ne_of_lt (blk_lt (g := gb602) (o := .cells #[.string (⟨#[]⟩ : ByteArray), .int .i64 0] 45 (0, 0)) (by (with_reducible repeat (first | refine blk_drewN ?_ _ | refine blk_drew ?_ | refine blk_alloc ?_ _)); exact BK602.out)) : gb602 ≠ gb603)); have n12_ := Aside0.mk ((by rw [hg]; exact Nat.ne_of_gt (blk_lt (g := gb602) (o := .cells #[.string (⟨#[]⟩ : ByteArray), .int .i64 0] 45 (0, 0)) (by (with_reducible repeat (first | refine blk_drewN ?_ _ | refine blk_drew ?_ | refine blk_alloc ?_ _)); exact BK602.out)) : gb603 ≠ gb602)); have n13_ := Aside0.mk ((by rw [hg]; exact Nat.ne_of_lt (IsS113.lt (show IsS113 w _ g592 t595 t596 from by repeat (first | (with_reducible first | exact HI592.out | apply IsS113.alloc | apply IsS113.drewN | apply IsS113.drew | apply IsS113.set_0 | apply IsS113.set_1 | refine IsS113.far ?_ NB592_597.out _ | refine IsS113.far ?_ NB592_602.out _) | exact HI592.out))) : g592 ≠ gb603)); have n14_ := Aside0.mk ((by rw [hg]; exact Nat.ne_of_gt (IsS113.lt (show IsS113 w _ g592 t595 t596 from by repeat (first | (with_reducible first | exact HI592.out | apply IsS113.alloc | apply IsS113.drewN | apply IsS113.drew | apply IsS113.set_0 | apply IsS113.set_1 | refine IsS113.far ?_ NB592_597.out _ | refine IsS113.far ?_ NB592_602.out _) | exact HI592.out))) : gb603 ≠ g592)); clear HO585; clear HO589; clear HI592; clear BK597; clear BK602; clear HB; have HO585 := n0_; have HO589 := n1_; have HI592 := n2_; have BK597 := n3_; have BK602 := n4_; have HB := n5_; have BK603 := n6_; have GW603 := n7_; have GE603 := n8_; have NB597_603 := n9_; have NB603_597 := n10_; have NB602_603 := n11_; have NB603_602 := n12_; have NB592_603 := n13_; have NB603_592 := n14_; clear n0_ n1_ n2_ n3_ n4_ n5_ n6_ n7_ n8_ n9_ n10_ n11_ n12_ n13_ n14_; clear hb hbox hg; have hnb22 := NB602_597.out; have hnc22 := NB597_602.out; have hnb23 := NB602_603.out; have hnc23 := NB603_602.out; have hnb24 := NB602_592.out; have hnc24 := NB592_602.out; have hcz25_0 : w21.cell? ⟨gb602, 0, none⟩ = some (.string (⟨#[]⟩ : ByteArray)) := (blk_cell BK602.out 0).trans rfl; have hcz25_1 : w21.cell? ⟨gb602, 1, none⟩ = some (.int .i64 0) := (blk_cell BK602.out 1).trans rfl; have hfz25_0 := blk_frozen BK602.out 0; have hfz25_1 := blk_frozen BK602.out 1; have hnb26 := NB603_597.out; have hnc26 := NB597_603.out; have hnb27 := NB603_592.out; have hnc27 := NB592_603.out; have hcz28_0 : w21.cell? ⟨gb603, 0, none⟩ = some (.int .i64 0) := (blk_cell BK603.out 0).trans rfl; have hcz28_1 : w21.cell? ⟨gb603, 1, none⟩ = some (.string (⟨#[]⟩ : ByteArray)) := (blk_cell BK603.out 1).trans rfl; have hfz28_0 := blk_frozen BK603.out 0; have hfz28_1 := blk_frozen BK603.out 1))
      (try simp only [Act.put, List.setIfInBounds_toArray, List.set_cons_zero, List.set_cons_succ])
      go_cut [54] (fun v54 wc => ∃ (kq : Nat) (x54_10 : Bool), v54 = .bool x54_10 ∧ Aside0 (crosswaylaw04_ParamReads.j0 kq st5 t582 t583 t586 t587 x54_10 = some r) ∧ Aside0 (kq ≤ k) ∧ Aside0 (Kd.R k65 65 wc w.heap.size (fun k_ => k_ ≠ gb597) v584 t582) ∧ Aside0 (Kd.R k85 85 wc w.heap.size (fun k_ => k_ ≠ gb603) v588 t586) ∧ Aside0 (wc.heap[gb597]? = some (.cells #[.int .i64 t593, .string t594] 65 (0, 0))) ∧ Aside0 (wc.heap[gb602]? = some (.cells #[.string t598, .int .i64 t599] 45 (0, 0))) ∧ Aside0 (wc.heap[gb603]? = some (.cells #[.int .i64 t600, .string t601] 85 (0, 0))) ∧ Aside0 (Below w.heap.size w wc))
      case first =>
        have H := HC11.out
        clear HC11
        replace H := Option.bind_eq_some_iff.mp H
        obtain ⟨⟨t604, t605, t606⟩, A290, H⟩ := H
        replace H : (if t604 = t599 then (if (!(t593 == t600) || (!(t594.toList == t601.toList))) = true then (crosswaylaw04_ParamReads.j0 k st5 t582 t583 t586 t587 true) else ((octet_Reader_Left.f t605 t606).bind fun bt607 => (crosswaylaw04_ParamReads.j0 k st5 t582 t583 t586 t587 (bt607.1 != (t598.size : Int))))) else (crosswaylaw04_ParamReads.j0 k st5 t582 t583 t586 t587 true)) = some r := H
        have A29 := Aside0.mk A290
        clear A290
        by_cases c30 : t604 = t599
        · rw [if_pos c30] at H
          have c30b0 : (t604 == t599) = true := beq_iff_eq.mpr c30
          have c30b1 : (t604 != t599) = false := bne_eq_false_iff_eq.mpr c30
          clear c30
          (first | rw [c30b0] | (simp only [i64_w, i32_w]; rw [c30b0]) | skip)
          by_cases c31 : (!(t593 == t600) || (!(t594.toList == t601.toList))) = true
          · rw [if_pos c31] at H
            have c31b0 : (!(t593 == t600) || (!(t594.toList == t601.toList))) = true := c31
            clear c31
            have H' := Aside0.mk H
            clear H
            try go_wp2
            have n0_ : Aside0 (Kd.R k65 65 ((((w21.setCell ⟨gb602, 0, none⟩ (.string t598)).setCell ⟨gb602, 1, none⟩ (.int .i64 t599)).setCell ⟨gb603, 0, none⟩ (.int .i64 t600)).setCell ⟨gb603, 1, none⟩ (.string t601)) w.heap.size (fun k_ => k_ ≠ gb597) v584 t582) := ⟨by (with_reducible repeat (first | apply Kd.R_alloc | apply Kd.R_drewN | apply Kd.R_drew)); exact Kd.R_mono (Kd.R_far (p := ⟨gb603, 1, none⟩) (Kd.R_far (p := ⟨gb603, 0, none⟩) (Kd.R_far (p := ⟨gb602, 1, none⟩) (Kd.R_far (p := ⟨gb602, 0, none⟩) (Kd.R_types (Kd.R_types HO585.out BK602.out (by decide)) BK603.out (by decide)) (fun _ hk => hk.1.2) (.string t598)) (fun _ hk => hk.1.2) (.int .i64 t599)) (fun _ hk => hk.2) (.int .i64 t600)) (fun _ hk => hk.2) (.string t601)) (fun _ hk => hk.1.1.2)⟩
            have n1_ : Aside0 (Kd.R k85 85 ((((w21.setCell ⟨gb602, 0, none⟩ (.string t598)).setCell ⟨gb602, 1, none⟩ (.int .i64 t599)).setCell ⟨gb603, 0, none⟩ (.int .i64 t600)).setCell ⟨gb603, 1, none⟩ (.string t601)) w.heap.size (fun k_ => k_ ≠ gb603) v588 t586) := ⟨by (with_reducible repeat (first | apply Kd.R_alloc | apply Kd.R_drewN | apply Kd.R_drew)); exact Kd.R_mono (Kd.R_far (p := ⟨gb603, 1, none⟩) (Kd.R_far (p := ⟨gb603, 0, none⟩) (Kd.R_far (p := ⟨gb602, 1, none⟩) (Kd.R_far (p := ⟨gb602, 0, none⟩) (Kd.R_mono (Kd.R_types HO589.out BK602.out (by decide)) (fun k_ hk => (⟨hk, hk.1.2⟩ : _ ∧ k_ ≠ gb603))) (fun _ hk => hk.1.2) (.string t598)) (fun _ hk => hk.1.2) (.int .i64 t599)) (fun _ hk => hk.2) (.int .i64 t600)) (fun _ hk => hk.2) (.string t601)) (fun _ hk => hk.1.1.2)⟩
            have n2_ : Aside0 (((((w21.setCell ⟨gb602, 0, none⟩ (.string t598)).setCell ⟨gb602, 1, none⟩ (.int .i64 t599)).setCell ⟨gb603, 0, none⟩ (.int .i64 t600)).setCell ⟨gb603, 1, none⟩ (.string t601)).heap[gb597]? = some (.cells #[.int .i64 t593, .string t594] 65 (0, 0))) := ⟨by (with_reducible repeat (first | refine blk_drewN ?_ _ | refine blk_drew ?_ | refine blk_alloc ?_ _)); refine blk_far ?_ NB597_603.out _; (with_reducible repeat (first | refine blk_drewN ?_ _ | refine blk_drew ?_ | refine blk_alloc ?_ _)); refine blk_far ?_ NB597_603.out _; (with_reducible repeat (first | refine blk_drewN ?_ _ | refine blk_drew ?_ | refine blk_alloc ?_ _)); refine blk_far ?_ NB597_602.out _; (with_reducible repeat (first | refine blk_drewN ?_ _ | refine blk_drew ?_ | refine blk_alloc ?_ _)); refine blk_far ?_ NB597_602.out _; (with_reducible repeat (first | refine blk_drewN ?_ _ | refine blk_drew ?_ | refine blk_alloc ?_ _)); exact BK597.out⟩
            have n3_ : Aside0 (((((w21.setCell ⟨gb602, 0, none⟩ (.string t598)).setCell ⟨gb602, 1, none⟩ (.int .i64 t599)).setCell ⟨gb603, 0, none⟩ (.int .i64 t600)).setCell ⟨gb603, 1, none⟩ (.string t601)).heap[gb602]? = some (.cells #[.string t598, .int .i64 t599] 45 (0, 0))) := ⟨by (with_reducible repeat (first | refine blk_drewN ?_ _ | refine blk_drew ?_ | refine blk_alloc ?_ _)); refine blk_far ?_ NB602_603.out _; (with_reducible repeat (first | refine blk_drewN ?_ _ | refine blk_drew ?_ | refine blk_alloc ?_ _)); refine blk_far ?_ NB602_603.out _; (with_reducible repeat (first | refine blk_drewN ?_ _ | refine blk_drew ?_ | refine blk_alloc ?_ _)); refine blk_put (cs := #[.string t598, .int .i64 0]) ?_ 1 _ rfl; (with_reducible repeat (first | refine blk_drewN ?_ _ | refine blk_drew ?_ | refine blk_alloc ?_ _)); refine blk_put (cs := #[.string (⟨#[]⟩ : ByteArray), .int .i64 0]) ?_ 0 _ rfl; (with_reducible repeat (first | refine blk_drewN ?_ _ | refine blk_drew ?_ | refine blk_alloc ?_ _)); exact BK602.out⟩
            have n4_ : Aside0 (((((w21.setCell ⟨gb602, 0, none⟩ (.string t598)).setCell ⟨gb602, 1, none⟩ (.int .i64 t599)).setCell ⟨gb603, 0, none⟩ (.int .i64 t600)).setCell ⟨gb603, 1, none⟩ (.string t601)).heap[gb603]? = some (.cells #[.int .i64 t600, .string t601] 85 (0, 0))) := ⟨by (with_reducible repeat (first | refine blk_drewN ?_ _ | refine blk_drew ?_ | refine blk_alloc ?_ _)); refine blk_put (cs := #[.int .i64 t600, .string (⟨#[]⟩ : ByteArray)]) ?_ 1 _ rfl; (with_reducible repeat (first | refine blk_drewN ?_ _ | refine blk_drew ?_ | refine blk_alloc ?_ _)); refine blk_put (cs := #[.int .i64 0, .string (⟨#[]⟩ : ByteArray)]) ?_ 0 _ rfl; (with_reducible repeat (first | refine blk_drewN ?_ _ | refine blk_drew ?_ | refine blk_alloc ?_ _)); refine blk_far ?_ NB603_602.out _; (with_reducible repeat (first | refine blk_drewN ?_ _ | refine blk_drew ?_ | refine blk_alloc ?_ _)); refine blk_far ?_ NB603_602.out _; (with_reducible repeat (first | refine blk_drewN ?_ _ | refine blk_drew ?_ | refine blk_alloc ?_ _)); exact BK603.out⟩
            have n5_ : Aside0 (IsS113 w ((((w21.setCell ⟨gb602, 0, none⟩ (.string t598)).setCell ⟨gb602, 1, none⟩ (.int .i64 t599)).setCell ⟨gb603, 0, none⟩ (.int .i64 t600)).setCell ⟨gb603, 1, none⟩ (.string t601)) g592 t595 t596) := ⟨by repeat (first | (with_reducible first | exact HI592.out | apply IsS113.alloc | apply IsS113.drewN | apply IsS113.drew | apply IsS113.set_0 | apply IsS113.set_1 | refine IsS113.far ?_ NB592_597.out _ | refine IsS113.far ?_ NB592_602.out _ | refine IsS113.far ?_ NB592_603.out _) | exact HI592.out)⟩
            have n6_ : Aside0 (Below w.heap.size w ((((w21.setCell ⟨gb602, 0, none⟩ (.string t598)).setCell ⟨gb602, 1, none⟩ (.int .i64 t599)).setCell ⟨gb603, 0, none⟩ (.int .i64 t600)).setCell ⟨gb603, 1, none⟩ (.string t601))) := ⟨by repeat (first | (with_reducible first | exact HB.out | apply below_alloc | apply pw_below_drewN | apply below_drew1 | refine below_set ?_ (IsS113.ge HI592.out) | refine below_set ?_ GE597.out | refine below_set ?_ GE602.out | refine below_set ?_ GE603.out) | exact HB.out)⟩
            (try clear HO585)
            (try clear HO589)
            (try clear BK597)
            (try clear BK602)
            (try clear BK603)
            (try clear HI592)
            (try clear HB)
            generalize ((((w21.setCell ⟨gb602, 0, none⟩ (.string t598)).setCell ⟨gb602, 1, none⟩ (.int .i64 t599)).setCell ⟨gb603, 0, none⟩ (.int .i64 t600)).setCell ⟨gb603, 1, none⟩ (.string t601)) = w32 at n0_ n1_ n2_ n3_ n4_ n5_ n6_ ⊢
            have HO585 := n0_
            have HO589 := n1_
            have BK597 := n2_
            have BK602 := n3_
            have BK603 := n4_
            have HI592 := n5_
            have HB := n6_
            clear n0_ n1_ n2_ n3_ n4_ n5_ n6_
            have n0_ := Aside0.mk (Kd.R_drew HO585.out)
            have n1_ := Aside0.mk (Kd.R_drew HO589.out)
            have n2_ := Aside0.mk (blk_drew BK597.out)
            have n3_ := Aside0.mk (blk_drew BK602.out)
            have n4_ := Aside0.mk (blk_drew BK603.out)
            have n5_ := Aside0.mk (IsS113.drew HI592.out)
            have n6_ := Aside0.mk (below_drew1 HB.out)
            clear HO585
            clear HO589
            clear BK597
            clear BK602
            clear BK603
            clear HI592
            clear HB
            have HO585 := n0_
            have HO589 := n1_
            have BK597 := n2_
            have BK602 := n3_
            have BK603 := n4_
            have HI592 := n5_
            have HB := n6_
            clear n0_ n1_ n2_ n3_ n4_ n5_ n6_
            refine start_ (n := 18) (S := fun w' => w'.cell? ⟨gb602, 0, none⟩ = some (.string t598) ∧ w'.cell? ⟨gb602, 1, none⟩ = some (.int .i64 t599) ∧ w'.cell? ⟨gb597, 0, none⟩ = some (.int .i64 t593) ∧ w'.cell? ⟨gb597, 1, none⟩ = some (.string t594) ∧ w'.cell? ⟨gb603, 0, none⟩ = some (.int .i64 t600) ∧ w'.cell? ⟨gb603, 1, none⟩ = some (.string t601)) (ds := []) #[false, false, false, false, false, false, false, false, false, false, false, false, false, false, false, false, false, false] (by kernel_rfl) rfl rfl ⟨(blk_cell BK602.out 0).trans rfl, (blk_cell BK602.out 1).trans rfl, (blk_cell BK597.out 0).trans rfl, (blk_cell BK597.out 1).trans rfl, (blk_cell BK603.out 0).trans rfl, (blk_cell BK603.out 1).trans rfl⟩ (fun hHeld => ?_); refine with_tabW crosswaylaw04_ParamReads.tab7 crosswaylaw04_ParamReads.bits7 (fun HT_ HW_ => ?_)
            generalize w32.drew = w33 at HO585 HO589 BK597 BK602 BK603 HI592 HB hHeld ⊢
            refine pure_ (i := 0) (N := some 37) (v := ?_) (a' := ?_) #[true, false, false, false, false, false, false, false, false, false, false, false, false, false, false, false, false, false] rfl rfl (any_of HT_.out (by kernel_rfl)) (fun _ _ _ h => h) (Or.inl ⟨by rfl, ?_⟩) ?_ ?_
            rotate_left
            · intro w'
              go_simp
              with_reducible rfl
            rotate_left
            · simp only [Act.put, List.setIfInBounds_toArray, List.set_cons_zero, List.set_cons_succ, i64_w, i32_w]
              rfl
            refine pure_ (i := 2) (N := some 39) (v := ?_) (a' := ?_) #[true, false, true, false, false, false, false, false, false, false, false, false, false, false, false, false, false, false] rfl rfl (any_of HT_.out (by kernel_rfl)) (fun _ _ _ h => h) (Or.inl ⟨by rfl, ?_⟩) ?_ ?_
            rotate_left
            · intro w'
              go_simp
              with_reducible rfl
            rotate_left
            · simp only [Act.put, List.setIfInBounds_toArray, List.set_cons_zero, List.set_cons_succ, i64_w, i32_w]
              rfl
            refine take_ (i := 3) (N := some 40) (v := ?_) (a' := ?_) #[true, false, true, true, false, false, false, false, false, false, false, false, false, false, false, false, false, false] rfl rfl (take_ofW HT_.out HW_.out (by kernel_rfl)) (fun _ _ _ h => h) (Or.inl ⟨by rfl, ?_⟩) hHeld ?_ ?_
            rotate_left
            · rintro w' ⟨s0, s1, s2, s3, s4, s5⟩
              go_simp
              with_reducible rfl
            rotate_left
            · simp only [Act.put, List.setIfInBounds_toArray, List.set_cons_zero, List.set_cons_succ, i64_w, i32_w]
              rfl
            refine one_ (i := 1) (N := some 38) #[true, true, true, true, false, false, false, false, false, false, false, false, false, false, false, false, false, false] rfl rfl (one_of HT_.out (by kernel_rfl)) (by decide) (fun K hK => ?_)
            refine goes_ Try.func41 (by kernel_rfl) rfl #[.pointer (some ⟨g592, 0, none⟩)] (by rfl) rfl rfl (by (try simp only [List.map_toArray, List.map_cons, List.map_nil]); first | done | rfl | (simp only [List.length_drop, List.length_take]; rfl)) ?_
            with_reducible refine (octet_Reader_Err.calls g592 t595 t596 t604 t605 t606 w _ ?side1 ?side2 A29.out).mono ?_
            (case side1 => repeat (first | (with_reducible first | exact HI592.out | apply IsS113.alloc | apply IsS113.drewN | apply IsS113.drew | apply IsS113.set_0 | apply IsS113.set_1 | refine IsS113.far ?_ NB592_597.out _ | refine IsS113.far ?_ NB592_602.out _ | refine IsS113.far ?_ NB592_603.out _) | exact HI592.out))
            (case side2 => repeat (first | (with_reducible first | exact HB.out | apply below_alloc | apply pw_below_drewN | apply below_drew1 | refine below_set ?_ (IsS113.ge HI592.out) | refine below_set ?_ GE597.out | refine below_set ?_ GE602.out | refine below_set ?_ GE603.out) | exact HB.out))
            rintro e w34 ⟨rfl, hi, hb, hk⟩
            refine ⟨_, rfl, ?_⟩
            have n0_ := Aside0.mk (Kd.R_mono (Kd.R_keep (IsS113.apart (show IsS113 w _ g592 t595 t596 from by repeat (first | (with_reducible first | exact HI592.out | apply IsS113.alloc | apply IsS113.drewN | apply IsS113.drew | apply IsS113.set_0 | apply IsS113.set_1 | refine IsS113.far ?_ NB592_597.out _ | refine IsS113.far ?_ NB592_602.out _ | refine IsS113.far ?_ NB592_603.out _) | exact HI592.out)) (by (with_reducible repeat (first | apply Kd.R_alloc | apply Kd.R_drewN | apply Kd.R_drew)); exact HO585.out) (by decide)) hk (fun _ h => h.2)) (fun _ h => h.1))
            have n1_ := Aside0.mk (Kd.R_mono (Kd.R_keep (IsS113.apart (show IsS113 w _ g592 t595 t596 from by repeat (first | (with_reducible first | exact HI592.out | apply IsS113.alloc | apply IsS113.drewN | apply IsS113.drew | apply IsS113.set_0 | apply IsS113.set_1 | refine IsS113.far ?_ NB592_597.out _ | refine IsS113.far ?_ NB592_602.out _ | refine IsS113.far ?_ NB592_603.out _) | exact HI592.out)) (by (with_reducible repeat (first | apply Kd.R_alloc | apply Kd.R_drewN | apply Kd.R_drew)); exact HO589.out) (by decide)) hk (fun _ h => h.2)) (fun _ h => h.1))
            have n2_ := Aside0.mk (KeepBut.blk hk (g' := gb597) (o := .cells #[.int .i64 t593, .string t594] 65 (0, 0)) (by (with_reducible repeat (first | refine blk_drewN ?_ _ | refine blk_drew ?_ | refine blk_alloc ?_ _)); exact BK597.out) NB597_592.out (by simp))
            have n3_ := Aside0.mk (KeepBut.blk hk (g' := gb602) (o := .cells #[.string t598, .int .i64 t599] 45 (0, 0)) (by (with_reducible repeat (first | refine blk_drewN ?_ _ | refine blk_drew ?_ | refine blk_alloc ?_ _)); exact BK602.out) NB602_592.out (by simp))
            have n4_ := Aside0.mk (KeepBut.blk hk (g' := gb603) (o := .cells #[.int .i64 t600, .string t601] 85 (0, 0)) (by (with_reducible repeat (first | refine blk_drewN ?_ _ | refine blk_drew ?_ | refine blk_alloc ?_ _)); exact BK603.out) NB603_592.out (by simp))
            have n5_ := Aside0.mk (hb)
            have n6_ := Aside0.mk (hi)
            clear HO585
            clear HO589
            clear BK597
            clear BK602
            clear BK603
            clear HB
            clear HI592
            have HO585 := n0_
            have HO589 := n1_
            have BK597 := n2_
            have BK602 := n3_
            have BK603 := n4_
            have HB := n5_
            have HI592 := n6_
            clear n0_ n1_ n2_ n3_ n4_ n5_ n6_
            (try clear hb)
            (try clear hb2)
            (try clear hk)
            (try clear hi)
            refine hK.out _ _ ⟨(blk_cell BK602.out 0).trans rfl, (blk_cell BK602.out 1).trans rfl, (blk_cell BK597.out 0).trans rfl, (blk_cell BK597.out 1).trans rfl, (blk_cell BK603.out 0).trans rfl, (blk_cell BK603.out 1).trans rfl⟩ (fun hHeld => ?_)
            clear hK K
            refine norm_ (a' := ?_) ?_ ?_
            rotate_left
            · show Act.put _ (some 38) _ = _
              simp only [Act.put, List.setIfInBounds_toArray, List.set_cons_zero, List.set_cons_succ, i64_w, i32_w]
              rfl
            refine pure_ (i := 4) (N := some 41) (v := ?_) (a' := ?_) #[true, true, true, true, true, false, false, false, false, false, false, false, false, false, false, false, false, false] rfl rfl (any_of HT_.out (by kernel_rfl)) (fun _ _ _ h => h) (Or.inl ⟨by rfl, ?_⟩) ?_ ?_
            rotate_left
            · intro w'
              go_simp
              with_reducible rfl
            rotate_left
            · simp only [Act.put, List.setIfInBounds_toArray, List.set_cons_zero, List.set_cons_succ, i64_w, i32_w]
              rfl
            refine pure_ (i := 5) (N := some 42) (v := ?_) (a' := ?_) #[true, true, true, true, true, true, false, false, false, false, false, false, false, false, false, false, false, false] rfl rfl (any_of HT_.out (by kernel_rfl)) (fun _ _ _ h => h) (Or.inl ⟨by rfl, ?_⟩) ?_ ?_
            rotate_left
            · intro w'
              go_simp
              with_reducible rfl
            rotate_left
            · simp only [Act.put, List.setIfInBounds_toArray, List.set_cons_zero, List.set_cons_succ, i64_w, i32_w]
              rfl
            refine take_ (i := 6) (N := some 43) (v := ?_) (a' := ?_) #[true, true, true, true, true, true, true, false, false, false, false, false, false, false, false, false, false, false] rfl rfl (take_ofW HT_.out HW_.out (by kernel_rfl)) (fun _ _ _ h => h) (Or.inl ⟨by rfl, ?_⟩) hHeld ?_ ?_
            rotate_left
            · rintro w' ⟨s0, s1, s2, s3, s4, s5⟩
              go_simp
              with_reducible rfl
            rotate_left
            · simp only [Act.put, List.setIfInBounds_toArray, List.set_cons_zero, List.set_cons_succ, i64_w, i32_w]
              rfl
            refine take_ (i := 7) (N := some 44) (v := ?_) (a' := ?_) #[true, true, true, true, true, true, true, true, false, false, false, false, false, false, false, false, false, false] rfl rfl (take_ofW HT_.out HW_.out (by kernel_rfl)) (fun _ _ _ h => h) (Or.inl ⟨by rfl, ?_⟩) hHeld ?_ ?_
            rotate_left
            · rintro w' ⟨s0, s1, s2, s3, s4, s5⟩
              go_simp
              with_reducible rfl
            rotate_left
            · simp only [Act.put, List.setIfInBounds_toArray, List.set_cons_zero, List.set_cons_succ, i64_w, i32_w]
              rfl
            refine pure_ (i := 8) (N := some 45) (v := ?_) (a' := ?_) #[true, true, true, true, true, true, true, true, true, false, false, false, false, false, false, false, false, false] rfl rfl (any_of HT_.out (by kernel_rfl)) (fun _ _ _ h => h) (Or.inl ⟨by rfl, ?_⟩) ?_ ?_
            rotate_left
            · intro w'
              go_simp
              with_reducible rfl
            rotate_left
            · simp only [Act.put, List.setIfInBounds_toArray, List.set_cons_zero, List.set_cons_succ, i64_w, i32_w]
              rfl
            refine pure_ (i := 9) (N := some 46) (v := ?_) (a' := ?_) #[true, true, true, true, true, true, true, true, true, true, false, false, false, false, false, false, false, false] rfl rfl (any_of HT_.out (by kernel_rfl)) (fun _ _ _ h => h) (Or.inl ⟨by rfl, ?_⟩) ?_ ?_
            rotate_left
            · intro w'
              go_simp
              with_reducible rfl
            rotate_left
            · simp only [Act.put, List.setIfInBounds_toArray, List.set_cons_zero, List.set_cons_succ, i64_w, i32_w]
              rfl
            refine pure_ (i := 10) (N := some 47) (v := ?_) (a' := ?_) #[true, true, true, true, true, true, true, true, true, true, true, false, false, false, false, false, false, false] rfl rfl (any_of HT_.out (by kernel_rfl)) (fun _ _ _ h => h) (Or.inl ⟨by rfl, ?_⟩) ?_ ?_
            rotate_left
            · intro w'
              go_simp
              with_reducible rfl
            rotate_left
            · simp only [Act.put, List.setIfInBounds_toArray, List.set_cons_zero, List.set_cons_succ, i64_w, i32_w]
              rfl
            refine pure_ (i := 11) (N := some 48) (v := undef) (a' := ?_) #[true, true, true, true, true, true, true, true, true, true, true, true, false, false, false, false, false, false] rfl rfl (any_of HT_.out (by kernel_rfl)) (fun _ _ _ h => h) (Or.inr ⟨by rfl, rfl⟩) ?_ ?_
            rotate_left
            · simp only [Act.put, List.setIfInBounds_toArray, List.set_cons_zero, List.set_cons_succ, i64_w, i32_w]
              rfl
            refine pure_ (i := 12) (N := some 49) (v := undef) (a' := ?_) #[true, true, true, true, true, true, true, true, true, true, true, true, true, false, false, false, false, false] rfl rfl (any_of HT_.out (by kernel_rfl)) (fun _ _ _ h => h) (Or.inr ⟨by rfl, rfl⟩) ?_ ?_
            rotate_left
            · simp only [Act.put, List.setIfInBounds_toArray, List.set_cons_zero, List.set_cons_succ, i64_w, i32_w]
              rfl
            refine pure_ (i := 13) (N := some 50) (v := undef) (a' := ?_) #[true, true, true, true, true, true, true, true, true, true, true, true, true, true, false, false, false, false] rfl rfl (any_of HT_.out (by kernel_rfl)) (fun _ _ _ h => h) (Or.inr ⟨by rfl, rfl⟩) ?_ ?_
            rotate_left
            · simp only [Act.put, List.setIfInBounds_toArray, List.set_cons_zero, List.set_cons_succ, i64_w, i32_w]
              rfl
            refine pure_ (i := 14) (N := some 51) (v := undef) (a' := ?_) #[true, true, true, true, true, true, true, true, true, true, true, true, true, true, true, false, false, false] rfl rfl (any_of HT_.out (by kernel_rfl)) (fun _ _ _ h => h) (Or.inr ⟨by rfl, rfl⟩) ?_ ?_
            rotate_left
            · simp only [Act.put, List.setIfInBounds_toArray, List.set_cons_zero, List.set_cons_succ, i64_w, i32_w]
              rfl
            refine pure_ (i := 15) (N := some 52) (v := undef) (a' := ?_) #[true, true, true, true, true, true, true, true, true, true, true, true, true, true, true, true, false, false] rfl rfl (any_of HT_.out (by kernel_rfl)) (fun _ _ _ h => h) (Or.inr ⟨by rfl, rfl⟩) ?_ ?_
            rotate_left
            · simp only [Act.put, List.setIfInBounds_toArray, List.set_cons_zero, List.set_cons_succ, i64_w, i32_w]
              rfl
            refine pure_ (i := 16) (N := some 53) (v := undef) (a' := ?_) #[true, true, true, true, true, true, true, true, true, true, true, true, true, true, true, true, true, false] rfl rfl (any_of HT_.out (by kernel_rfl)) (fun _ _ _ h => h) (Or.inr ⟨by rfl, rfl⟩) ?_ ?_
            rotate_left
            · simp only [Act.put, List.setIfInBounds_toArray, List.set_cons_zero, List.set_cons_succ, i64_w, i32_w]
              rfl
            refine pure_ (i := 17) (N := some 54) (v := ?_) (a' := ?_) #[true, true, true, true, true, true, true, true, true, true, true, true, true, true, true, true, true, true] rfl rfl (any_of HT_.out (by kernel_rfl)) (fun _ _ _ h => h) (Or.inl ⟨by rfl, ?_⟩) ?_ ?_
            rotate_left
            · intro w'
              go_simp
              with_reducible rfl
            rotate_left
            · simp only [Act.put, List.setIfInBounds_toArray, List.set_cons_zero, List.set_cons_succ, i64_w, i32_w]
              rfl
            refine done_ (done_of HT_.out (by kernel_rfl)) ?_
            try go_wp2
            go_meet
            case rel => exact ⟨_, (true), (by first | rfl | (simp; done) | (simp [*]; done)), H', ⟨by first | omega | exact Nat.le_refl _⟩, ⟨by (with_reducible repeat (first | apply Kd.R_alloc | apply Kd.R_drewN | apply Kd.R_drew)); exact HO585.out⟩, ⟨by (with_reducible repeat (first | apply Kd.R_alloc | apply Kd.R_drewN | apply Kd.R_drew)); exact HO589.out⟩, ⟨by (with_reducible repeat (first | refine blk_drewN ?_ _ | refine blk_drew ?_ | refine blk_alloc ?_ _)); exact BK597.out⟩, ⟨by (with_reducible repeat (first | refine blk_drewN ?_ _ | refine blk_drew ?_ | refine blk_alloc ?_ _)); exact BK602.out⟩, ⟨by (with_reducible repeat (first | refine blk_drewN ?_ _ | refine blk_drew ?_ | refine blk_alloc ?_ _)); exact BK603.out⟩, ⟨by repeat (first | (with_reducible first | exact HB.out | apply below_alloc | apply pw_below_drewN | apply below_drew1 | refine below_set ?_ (IsS113.ge HI592.out) | refine below_set ?_ GE597.out | refine below_set ?_ GE602.out | refine below_set ?_ GE603.out) | exact HB.out)⟩⟩
          · rw [if_neg c31] at H
            have c31b0 : (!(t593 == t600) || (!(t594.toList == t601.toList))) = false := by simpa using c31
            clear c31
            replace H := Option.bind_eq_some_iff.mp H
            obtain ⟨⟨t607, t608, t609⟩, A350, H⟩ := H
            replace H : (crosswaylaw04_ParamReads.j0 k st5 t582 t583 t586 t587 (t607 != (t598.size : Int))) = some r := H
            have A35 := Aside0.mk A350
            clear A350
            have H' := Aside0.mk H
            clear H
            try go_wp2
            have n0_ : Aside0 (Kd.R k65 65 ((((w21.setCell ⟨gb602, 0, none⟩ (.string t598)).setCell ⟨gb602, 1, none⟩ (.int .i64 t599)).setCell ⟨gb603, 0, none⟩ (.int .i64 t600)).setCell ⟨gb603, 1, none⟩ (.string t601)) w.heap.size (fun k_ => k_ ≠ gb597) v584 t582) := ⟨by (with_reducible repeat (first | apply Kd.R_alloc | apply Kd.R_drewN | apply Kd.R_drew)); exact Kd.R_mono (Kd.R_far (p := ⟨gb603, 1, none⟩) (Kd.R_far (p := ⟨gb603, 0, none⟩) (Kd.R_far (p := ⟨gb602, 1, none⟩) (Kd.R_far (p := ⟨gb602, 0, none⟩) (Kd.R_types (Kd.R_types HO585.out BK602.out (by decide)) BK603.out (by decide)) (fun _ hk => hk.1.2) (.string t598)) (fun _ hk => hk.1.2) (.int .i64 t599)) (fun _ hk => hk.2) (.int .i64 t600)) (fun _ hk => hk.2) (.string t601)) (fun _ hk => hk.1.1.2)⟩
            have n1_ : Aside0 (Kd.R k85 85 ((((w21.setCell ⟨gb602, 0, none⟩ (.string t598)).setCell ⟨gb602, 1, none⟩ (.int .i64 t599)).setCell ⟨gb603, 0, none⟩ (.int .i64 t600)).setCell ⟨gb603, 1, none⟩ (.string t601)) w.heap.size (fun k_ => k_ ≠ gb603) v588 t586) := ⟨by (with_reducible repeat (first | apply Kd.R_alloc | apply Kd.R_drewN | apply Kd.R_drew)); exact Kd.R_mono (Kd.R_far (p := ⟨gb603, 1, none⟩) (Kd.R_far (p := ⟨gb603, 0, none⟩) (Kd.R_far (p := ⟨gb602, 1, none⟩) (Kd.R_far (p := ⟨gb602, 0, none⟩) (Kd.R_mono (Kd.R_types HO589.out BK602.out (by decide)) (fun k_ hk => (⟨hk, hk.1.2⟩ : _ ∧ k_ ≠ gb603))) (fun _ hk => hk.1.2) (.string t598)) (fun _ hk => hk.1.2) (.int .i64 t599)) (fun _ hk => hk.2) (.int .i64 t600)) (fun _ hk => hk.2) (.string t601)) (fun _ hk => hk.1.1.2)⟩
            have n2_ : Aside0 (((((w21.setCell ⟨gb602, 0, none⟩ (.string t598)).setCell ⟨gb602, 1, none⟩ (.int .i64 t599)).setCell ⟨gb603, 0, none⟩ (.int .i64 t600)).setCell ⟨gb603, 1, none⟩ (.string t601)).heap[gb597]? = some (.cells #[.int .i64 t593, .string t594] 65 (0, 0))) := ⟨by (with_reducible repeat (first | refine blk_drewN ?_ _ | refine blk_drew ?_ | refine blk_alloc ?_ _)); refine blk_far ?_ NB597_603.out _; (with_reducible repeat (first | refine blk_drewN ?_ _ | refine blk_drew ?_ | refine blk_alloc ?_ _)); refine blk_far ?_ NB597_603.out _; (with_reducible repeat (first | refine blk_drewN ?_ _ | refine blk_drew ?_ | refine blk_alloc ?_ _)); refine blk_far ?_ NB597_602.out _; (with_reducible repeat (first | refine blk_drewN ?_ _ | refine blk_drew ?_ | refine blk_alloc ?_ _)); refine blk_far ?_ NB597_602.out _; (with_reducible repeat (first | refine blk_drewN ?_ _ | refine blk_drew ?_ | refine blk_alloc ?_ _)); exact BK597.out⟩
            have n3_ : Aside0 (((((w21.setCell ⟨gb602, 0, none⟩ (.string t598)).setCell ⟨gb602, 1, none⟩ (.int .i64 t599)).setCell ⟨gb603, 0, none⟩ (.int .i64 t600)).setCell ⟨gb603, 1, none⟩ (.string t601)).heap[gb602]? = some (.cells #[.string t598, .int .i64 t599] 45 (0, 0))) := ⟨by (with_reducible repeat (first | refine blk_drewN ?_ _ | refine blk_drew ?_ | refine blk_alloc ?_ _)); refine blk_far ?_ NB602_603.out _; (with_reducible repeat (first | refine blk_drewN ?_ _ | refine blk_drew ?_ | refine blk_alloc ?_ _)); refine blk_far ?_ NB602_603.out _; (with_reducible repeat (first | refine blk_drewN ?_ _ | refine blk_drew ?_ | refine blk_alloc ?_ _)); refine blk_put (cs := #[.string t598, .int .i64 0]) ?_ 1 _ rfl; (with_reducible repeat (first | refine blk_drewN ?_ _ | refine blk_drew ?_ | refine blk_alloc ?_ _)); refine blk_put (cs := #[.string (⟨#[]⟩ : ByteArray), .int .i64 0]) ?_ 0 _ rfl; (with_reducible repeat (first | refine blk_drewN ?_ _ | refine blk_drew ?_ | refine blk_alloc ?_ _)); exact BK602.out⟩
            have n4_ : Aside0 (((((w21.setCell ⟨gb602, 0, none⟩ (.string t598)).setCell ⟨gb602, 1, none⟩ (.int .i64 t599)).setCell ⟨gb603, 0, none⟩ (.int .i64 t600)).setCell ⟨gb603, 1, none⟩ (.string t601)).heap[gb603]? = some (.cells #[.int .i64 t600, .string t601] 85 (0, 0))) := ⟨by (with_reducible repeat (first | refine blk_drewN ?_ _ | refine blk_drew ?_ | refine blk_alloc ?_ _)); refine blk_put (cs := #[.int .i64 t600, .string (⟨#[]⟩ : ByteArray)]) ?_ 1 _ rfl; (with_reducible repeat (first | refine blk_drewN ?_ _ | refine blk_drew ?_ | refine blk_alloc ?_ _)); refine blk_put (cs := #[.int .i64 0, .string (⟨#[]⟩ : ByteArray)]) ?_ 0 _ rfl; (with_reducible repeat (first | refine blk_drewN ?_ _ | refine blk_drew ?_ | refine blk_alloc ?_ _)); refine blk_far ?_ NB603_602.out _; (with_reducible repeat (first | refine blk_drewN ?_ _ | refine blk_drew ?_ | refine blk_alloc ?_ _)); refine blk_far ?_ NB603_602.out _; (with_reducible repeat (first | refine blk_drewN ?_ _ | refine blk_drew ?_ | refine blk_alloc ?_ _)); exact BK603.out⟩
            have n5_ : Aside0 (IsS113 w ((((w21.setCell ⟨gb602, 0, none⟩ (.string t598)).setCell ⟨gb602, 1, none⟩ (.int .i64 t599)).setCell ⟨gb603, 0, none⟩ (.int .i64 t600)).setCell ⟨gb603, 1, none⟩ (.string t601)) g592 t595 t596) := ⟨by repeat (first | (with_reducible first | exact HI592.out | apply IsS113.alloc | apply IsS113.drewN | apply IsS113.drew | apply IsS113.set_0 | apply IsS113.set_1 | refine IsS113.far ?_ NB592_597.out _ | refine IsS113.far ?_ NB592_602.out _ | refine IsS113.far ?_ NB592_603.out _) | exact HI592.out)⟩
            have n6_ : Aside0 (Below w.heap.size w ((((w21.setCell ⟨gb602, 0, none⟩ (.string t598)).setCell ⟨gb602, 1, none⟩ (.int .i64 t599)).setCell ⟨gb603, 0, none⟩ (.int .i64 t600)).setCell ⟨gb603, 1, none⟩ (.string t601))) := ⟨by repeat (first | (with_reducible first | exact HB.out | apply below_alloc | apply pw_below_drewN | apply below_drew1 | refine below_set ?_ (IsS113.ge HI592.out) | refine below_set ?_ GE597.out | refine below_set ?_ GE602.out | refine below_set ?_ GE603.out) | exact HB.out)⟩
            (try clear HO585)
            (try clear HO589)
            (try clear BK597)
            (try clear BK602)
            (try clear BK603)
            (try clear HI592)
            (try clear HB)
            generalize ((((w21.setCell ⟨gb602, 0, none⟩ (.string t598)).setCell ⟨gb602, 1, none⟩ (.int .i64 t599)).setCell ⟨gb603, 0, none⟩ (.int .i64 t600)).setCell ⟨gb603, 1, none⟩ (.string t601)) = w36 at n0_ n1_ n2_ n3_ n4_ n5_ n6_ ⊢
            have HO585 := n0_
            have HO589 := n1_
            have BK597 := n2_
            have BK602 := n3_
            have BK603 := n4_
            have HI592 := n5_
            have HB := n6_
            clear n0_ n1_ n2_ n3_ n4_ n5_ n6_
            have n0_ := Aside0.mk (Kd.R_drew HO585.out)
            have n1_ := Aside0.mk (Kd.R_drew HO589.out)
            have n2_ := Aside0.mk (blk_drew BK597.out)
            have n3_ := Aside0.mk (blk_drew BK602.out)
            have n4_ := Aside0.mk (blk_drew BK603.out)
            have n5_ := Aside0.mk (IsS113.drew HI592.out)
            have n6_ := Aside0.mk (below_drew1 HB.out)
            clear HO585
            clear HO589
            clear BK597
            clear BK602
            clear BK603
            clear HI592
            clear HB
            have HO585 := n0_
            have HO589 := n1_
            have BK597 := n2_
            have BK602 := n3_
            have BK603 := n4_
            have HI592 := n5_
            have HB := n6_
            clear n0_ n1_ n2_ n3_ n4_ n5_ n6_
            refine start_ (n := 18) (S := fun w' => w'.cell? ⟨gb602, 0, none⟩ = some (.string t598) ∧ w'.cell? ⟨gb602, 1, none⟩ = some (.int .i64 t599) ∧ w'.cell? ⟨gb597, 0, none⟩ = some (.int .i64 t593) ∧ w'.cell? ⟨gb597, 1, none⟩ = some (.string t594) ∧ w'.cell? ⟨gb603, 0, none⟩ = some (.int .i64 t600) ∧ w'.cell? ⟨gb603, 1, none⟩ = some (.string t601)) (ds := []) #[false, false, false, false, false, false, false, false, false, false, false, false, false, false, false, false, false, false] (by kernel_rfl) rfl rfl ⟨(blk_cell BK602.out 0).trans rfl, (blk_cell BK602.out 1).trans rfl, (blk_cell BK597.out 0).trans rfl, (blk_cell BK597.out 1).trans rfl, (blk_cell BK603.out 0).trans rfl, (blk_cell BK603.out 1).trans rfl⟩ (fun hHeld => ?_); refine with_tabW crosswaylaw04_ParamReads.tab7 crosswaylaw04_ParamReads.bits7 (fun HT_ HW_ => ?_)
            generalize w36.drew = w37 at HO585 HO589 BK597 BK602 BK603 HI592 HB hHeld ⊢
            refine pure_ (i := 0) (N := some 37) (v := ?_) (a' := ?_) #[true, false, false, false, false, false, false, false, false, false, false, false, false, false, false, false, false, false] rfl rfl (any_of HT_.out (by kernel_rfl)) (fun _ _ _ h => h) (Or.inl ⟨by rfl, ?_⟩) ?_ ?_
            rotate_left
            · intro w'
              go_simp
              with_reducible rfl
            rotate_left
            · simp only [Act.put, List.setIfInBounds_toArray, List.set_cons_zero, List.set_cons_succ, i64_w, i32_w]
              rfl
            refine pure_ (i := 2) (N := some 39) (v := ?_) (a' := ?_) #[true, false, true, false, false, false, false, false, false, false, false, false, false, false, false, false, false, false] rfl rfl (any_of HT_.out (by kernel_rfl)) (fun _ _ _ h => h) (Or.inl ⟨by rfl, ?_⟩) ?_ ?_
            rotate_left
            · intro w'
              go_simp
              with_reducible rfl
            rotate_left
            · simp only [Act.put, List.setIfInBounds_toArray, List.set_cons_zero, List.set_cons_succ, i64_w, i32_w]
              rfl
            refine take_ (i := 3) (N := some 40) (v := ?_) (a' := ?_) #[true, false, true, true, false, false, false, false, false, false, false, false, false, false, false, false, false, false] rfl rfl (take_ofW HT_.out HW_.out (by kernel_rfl)) (fun _ _ _ h => h) (Or.inl ⟨by rfl, ?_⟩) hHeld ?_ ?_
            rotate_left
            · rintro w' ⟨s0, s1, s2, s3, s4, s5⟩
              go_simp
              with_reducible rfl
            rotate_left
            · simp only [Act.put, List.setIfInBounds_toArray, List.set_cons_zero, List.set_cons_succ, i64_w, i32_w]
              rfl
            refine one_ (i := 1) (N := some 38) #[true, true, true, true, false, false, false, false, false, false, false, false, false, false, false, false, false, false] rfl rfl (one_of HT_.out (by kernel_rfl)) (by decide) (fun K hK => ?_)
            refine goes_ Try.func41 (by kernel_rfl) rfl #[.pointer (some ⟨g592, 0, none⟩)] (by rfl) rfl rfl (by (try simp only [List.map_toArray, List.map_cons, List.map_nil]); first | done | rfl | (simp only [List.length_drop, List.length_take]; rfl)) ?_
            with_reducible refine (octet_Reader_Err.calls g592 t595 t596 t604 t605 t606 w _ ?side1 ?side2 A29.out).mono ?_
            (case side1 => repeat (first | (with_reducible first | exact HI592.out | apply IsS113.alloc | apply IsS113.drewN | apply IsS113.drew | apply IsS113.set_0 | apply IsS113.set_1 | refine IsS113.far ?_ NB592_597.out _ | refine IsS113.far ?_ NB592_602.out _ | refine IsS113.far ?_ NB592_603.out _) | exact HI592.out))
            (case side2 => repeat (first | (with_reducible first | exact HB.out | apply below_alloc | apply pw_below_drewN | apply below_drew1 | refine below_set ?_ (IsS113.ge HI592.out) | refine below_set ?_ GE597.out | refine below_set ?_ GE602.out | refine below_set ?_ GE603.out) | exact HB.out))
            rintro e w38 ⟨rfl, hi, hb, hk⟩
            refine ⟨_, rfl, ?_⟩
            have n0_ := Aside0.mk (Kd.R_mono (Kd.R_keep (IsS113.apart (show IsS113 w _ g592 t595 t596 from by repeat (first | (with_reducible first | exact HI592.out | apply IsS113.alloc | apply IsS113.drewN | apply IsS113.drew | apply IsS113.set_0 | apply IsS113.set_1 | refine IsS113.far ?_ NB592_597.out _ | refine IsS113.far ?_ NB592_602.out _ | refine IsS113.far ?_ NB592_603.out _) | exact HI592.out)) (by (with_reducible repeat (first | apply Kd.R_alloc | apply Kd.R_drewN | apply Kd.R_drew)); exact HO585.out) (by decide)) hk (fun _ h => h.2)) (fun _ h => h.1))
            have n1_ := Aside0.mk (Kd.R_mono (Kd.R_keep (IsS113.apart (show IsS113 w _ g592 t595 t596 from by repeat (first | (with_reducible first | exact HI592.out | apply IsS113.alloc | apply IsS113.drewN | apply IsS113.drew | apply IsS113.set_0 | apply IsS113.set_1 | refine IsS113.far ?_ NB592_597.out _ | refine IsS113.far ?_ NB592_602.out _ | refine IsS113.far ?_ NB592_603.out _) | exact HI592.out)) (by (with_reducible repeat (first | apply Kd.R_alloc | apply Kd.R_drewN | apply Kd.R_drew)); exact HO589.out) (by decide)) hk (fun _ h => h.2)) (fun _ h => h.1))
            have n2_ := Aside0.mk (KeepBut.blk hk (g' := gb597) (o := .cells #[.int .i64 t593, .string t594] 65 (0, 0)) (by (with_reducible repeat (first | refine blk_drewN ?_ _ | refine blk_drew ?_ | refine blk_alloc ?_ _)); exact BK597.out) NB597_592.out (by simp))
            have n3_ := Aside0.mk (KeepBut.blk hk (g' := gb602) (o := .cells #[.string t598, .int .i64 t599] 45 (0, 0)) (by (with_reducible repeat (first | refine blk_drewN ?_ _ | refine blk_drew ?_ | refine blk_alloc ?_ _)); exact BK602.out) NB602_592.out (by simp))
            have n4_ := Aside0.mk (KeepBut.blk hk (g' := gb603) (o := .cells #[.int .i64 t600, .string t601] 85 (0, 0)) (by (with_reducible repeat (first | refine blk_drewN ?_ _ | refine blk_drew ?_ | refine blk_alloc ?_ _)); exact BK603.out) NB603_592.out (by simp))
            have n5_ := Aside0.mk (hb)
            have n6_ := Aside0.mk (hi)
            clear HO585
            clear HO589
            clear BK597
            clear BK602
            clear BK603
            clear HB
            clear HI592
            have HO585 := n0_
            have HO589 := n1_
            have BK597 := n2_
            have BK602 := n3_
            have BK603 := n4_
            have HB := n5_
            have HI592 := n6_
            clear n0_ n1_ n2_ n3_ n4_ n5_ n6_
            (try clear hb)
            (try clear hb2)
            (try clear hk)
            (try clear hi)
            refine hK.out _ _ ⟨(blk_cell BK602.out 0).trans rfl, (blk_cell BK602.out 1).trans rfl, (blk_cell BK597.out 0).trans rfl, (blk_cell BK597.out 1).trans rfl, (blk_cell BK603.out 0).trans rfl, (blk_cell BK603.out 1).trans rfl⟩ (fun hHeld => ?_)
            clear hK K
            refine norm_ (a' := ?_) ?_ ?_
            rotate_left
            · show Act.put _ (some 38) _ = _
              simp only [Act.put, List.setIfInBounds_toArray, List.set_cons_zero, List.set_cons_succ, i64_w, i32_w]
              rfl
            refine pure_ (i := 4) (N := some 41) (v := ?_) (a' := ?_) #[true, true, true, true, true, false, false, false, false, false, false, false, false, false, false, false, false, false] rfl rfl (any_of HT_.out (by kernel_rfl)) (fun _ _ _ h => h) (Or.inl ⟨by rfl, ?_⟩) ?_ ?_
            rotate_left
            · intro w'
              go_simp
              with_reducible rfl
            rotate_left
            · simp only [Act.put, List.setIfInBounds_toArray, List.set_cons_zero, List.set_cons_succ, i64_w, i32_w]
              rfl
            refine pure_ (i := 5) (N := some 42) (v := ?_) (a' := ?_) #[true, true, true, true, true, true, false, false, false, false, false, false, false, false, false, false, false, false] rfl rfl (any_of HT_.out (by kernel_rfl)) (fun _ _ _ h => h) (Or.inl ⟨by rfl, ?_⟩) ?_ ?_
            rotate_left
            · intro w'
              go_simp
              with_reducible rfl
            rotate_left
            · simp only [Act.put, List.setIfInBounds_toArray, List.set_cons_zero, List.set_cons_succ, i64_w, i32_w]
              rfl
            refine take_ (i := 6) (N := some 43) (v := ?_) (a' := ?_) #[true, true, true, true, true, true, true, false, false, false, false, false, false, false, false, false, false, false] rfl rfl (take_ofW HT_.out HW_.out (by kernel_rfl)) (fun _ _ _ h => h) (Or.inl ⟨by rfl, ?_⟩) hHeld ?_ ?_
            rotate_left
            · rintro w' ⟨s0, s1, s2, s3, s4, s5⟩
              go_simp
              with_reducible rfl
            rotate_left
            · simp only [Act.put, List.setIfInBounds_toArray, List.set_cons_zero, List.set_cons_succ, i64_w, i32_w]
              rfl
            refine take_ (i := 7) (N := some 44) (v := ?_) (a' := ?_) #[true, true, true, true, true, true, true, true, false, false, false, false, false, false, false, false, false, false] rfl rfl (take_ofW HT_.out HW_.out (by kernel_rfl)) (fun _ _ _ h => h) (Or.inl ⟨by rfl, ?_⟩) hHeld ?_ ?_
            rotate_left
            · rintro w' ⟨s0, s1, s2, s3, s4, s5⟩
              go_simp
              with_reducible rfl
            rotate_left
            · simp only [Act.put, List.setIfInBounds_toArray, List.set_cons_zero, List.set_cons_succ, i64_w, i32_w]
              rfl
            refine pure_ (i := 8) (N := some 45) (v := ?_) (a' := ?_) #[true, true, true, true, true, true, true, true, true, false, false, false, false, false, false, false, false, false] rfl rfl (any_of HT_.out (by kernel_rfl)) (fun _ _ _ h => h) (Or.inl ⟨by rfl, ?_⟩) ?_ ?_
            rotate_left
            · intro w'
              go_simp
              with_reducible rfl
            rotate_left
            · simp only [Act.put, List.setIfInBounds_toArray, List.set_cons_zero, List.set_cons_succ, i64_w, i32_w]
              rfl
            refine pure_ (i := 9) (N := some 46) (v := ?_) (a' := ?_) #[true, true, true, true, true, true, true, true, true, true, false, false, false, false, false, false, false, false] rfl rfl (any_of HT_.out (by kernel_rfl)) (fun _ _ _ h => h) (Or.inl ⟨by rfl, ?_⟩) ?_ ?_
            rotate_left
            · intro w'
              go_simp
              with_reducible rfl
            rotate_left
            · simp only [Act.put, List.setIfInBounds_toArray, List.set_cons_zero, List.set_cons_succ, i64_w, i32_w]
              rfl
            refine pure_ (i := 10) (N := some 47) (v := ?_) (a' := ?_) #[true, true, true, true, true, true, true, true, true, true, true, false, false, false, false, false, false, false] rfl rfl (any_of HT_.out (by kernel_rfl)) (fun _ _ _ h => h) (Or.inl ⟨by rfl, ?_⟩) ?_ ?_
            rotate_left
            · intro w'
              go_simp
              with_reducible rfl
            rotate_left
            · simp only [Act.put, List.setIfInBounds_toArray, List.set_cons_zero, List.set_cons_succ, i64_w, i32_w]
              rfl
            refine pure_ (i := 11) (N := some 48) (v := ?_) (a' := ?_) #[true, true, true, true, true, true, true, true, true, true, true, true, false, false, false, false, false, false] rfl rfl (any_of HT_.out (by kernel_rfl)) (fun _ _ _ h => h) (Or.inl ⟨by rfl, ?_⟩) ?_ ?_
            rotate_left
            · intro w'
              go_simp
              with_reducible rfl
            rotate_left
            · simp only [Act.put, List.setIfInBounds_toArray, List.set_cons_zero, List.set_cons_succ, i64_w, i32_w]
              rfl
            refine pure_ (i := 13) (N := some 50) (v := ?_) (a' := ?_) #[true, true, true, true, true, true, true, true, true, true, true, true, false, true, false, false, false, false] rfl rfl (any_of HT_.out (by kernel_rfl)) (fun _ _ _ h => h) (Or.inl ⟨by rfl, ?_⟩) ?_ ?_
            rotate_left
            · intro w'
              go_simp
              with_reducible rfl
            rotate_left
            · simp only [Act.put, List.setIfInBounds_toArray, List.set_cons_zero, List.set_cons_succ, i64_w, i32_w]
              rfl
            refine take_ (i := 14) (N := some 51) (v := ?_) (a' := ?_) #[true, true, true, true, true, true, true, true, true, true, true, true, false, true, true, false, false, false] rfl rfl (take_ofW HT_.out HW_.out (by kernel_rfl)) (fun _ _ _ h => h) (Or.inl ⟨by rfl, ?_⟩) hHeld ?_ ?_
            rotate_left
            · rintro w' ⟨s0, s1, s2, s3, s4, s5⟩
              go_simp
              with_reducible rfl
            rotate_left
            · simp only [Act.put, List.setIfInBounds_toArray, List.set_cons_zero, List.set_cons_succ, i64_w, i32_w]
              rfl
            refine pure_ (i := 15) (N := some 52) (v := ?_) (a' := ?_) #[true, true, true, true, true, true, true, true, true, true, true, true, false, true, true, true, false, false] rfl rfl (any_of HT_.out (by kernel_rfl)) (fun _ _ _ h => h) (Or.inl ⟨by rfl, ?_⟩) ?_ ?_
            rotate_left
            · intro w'
              go_simp
              with_reducible rfl
            rotate_left
            · simp only [Act.put, List.setIfInBounds_toArray, List.set_cons_zero, List.set_cons_succ, i64_w, i32_w]
              rfl
            refine one_ (i := 12) (N := some 49) #[true, true, true, true, true, true, true, true, true, true, true, true, true, true, true, true, false, false] rfl rfl (one_of HT_.out (by kernel_rfl)) (by decide) (fun K hK => ?_)
            refine goes_ Try.func42 (by kernel_rfl) rfl #[.pointer (some ⟨g592, 0, none⟩)] (by rfl) rfl rfl (by (try simp only [List.map_toArray, List.map_cons, List.map_nil]); first | done | rfl | (simp only [List.length_drop, List.length_take]; rfl)) ?_
            with_reducible refine (octet_Reader_Left.calls g592 t605 t606 t607 t608 t609 w _ ?side1 ?side2 A35.out).mono ?_
            (case side1 => repeat (first | (with_reducible first | exact HI592.out | apply IsS113.alloc | apply IsS113.drewN | apply IsS113.drew | apply IsS113.set_0 | apply IsS113.set_1 | refine IsS113.far ?_ NB592_597.out _ | refine IsS113.far ?_ NB592_602.out _ | refine IsS113.far ?_ NB592_603.out _) | exact HI592.out))
            (case side2 => repeat (first | (with_reducible first | exact HB.out | apply below_alloc | apply pw_below_drewN | apply below_drew1 | refine below_set ?_ (IsS113.ge HI592.out) | refine below_set ?_ GE597.out | refine below_set ?_ GE602.out | refine below_set ?_ GE603.out) | exact HB.out))
            rintro e w39 ⟨rfl, hi, hb, hk⟩
            refine ⟨_, rfl, ?_⟩
            have n0_ := Aside0.mk (Kd.R_mono (Kd.R_keep (IsS113.apart (show IsS113 w _ g592 t605 t606 from by repeat (first | (with_reducible first | exact HI592.out | apply IsS113.alloc | apply IsS113.drewN | apply IsS113.drew | apply IsS113.set_0 | apply IsS113.set_1 | refine IsS113.far ?_ NB592_597.out _ | refine IsS113.far ?_ NB592_602.out _ | refine IsS113.far ?_ NB592_603.out _) | exact HI592.out)) (by (with_reducible repeat (first | apply Kd.R_alloc | apply Kd.R_drewN | apply Kd.R_drew)); exact HO585.out) (by decide)) hk (fun _ h => h.2)) (fun _ h => h.1))
            have n1_ := Aside0.mk (Kd.R_mono (Kd.R_keep (IsS113.apart (show IsS113 w _ g592 t605 t606 from by repeat (first | (with_reducible first | exact HI592.out | apply IsS113.alloc | apply IsS113.drewN | apply IsS113.drew | apply IsS113.set_0 | apply IsS113.set_1 | refine IsS113.far ?_ NB592_597.out _ | refine IsS113.far ?_ NB592_602.out _ | refine IsS113.far ?_ NB592_603.out _) | exact HI592.out)) (by (with_reducible repeat (first | apply Kd.R_alloc | apply Kd.R_drewN | apply Kd.R_drew)); exact HO589.out) (by decide)) hk (fun _ h => h.2)) (fun _ h => h.1))
            have n2_ := Aside0.mk (KeepBut.blk hk (g' := gb597) (o := .cells #[.int .i64 t593, .string t594] 65 (0, 0)) (by (with_reducible repeat (first | refine blk_drewN ?_ _ | refine blk_drew ?_ | refine blk_alloc ?_ _)); exact BK597.out) NB597_592.out (by simp))
            have n3_ := Aside0.mk (KeepBut.blk hk (g' := gb602) (o := .cells #[.string t598, .int .i64 t599] 45 (0, 0)) (by (with_reducible repeat (first | refine blk_drewN ?_ _ | refine blk_drew ?_ | refine blk_alloc ?_ _)); exact BK602.out) NB602_592.out (by simp))
            have n4_ := Aside0.mk (KeepBut.blk hk (g' := gb603) (o := .cells #[.int .i64 t600, .string t601] 85 (0, 0)) (by (with_reducible repeat (first | refine blk_drewN ?_ _ | refine blk_drew ?_ | refine blk_alloc ?_ _)); exact BK603.out) NB603_592.out (by simp))
            have n5_ := Aside0.mk (hb)
            have n6_ := Aside0.mk (hi)
            clear HO585
            clear HO589
            clear BK597
            clear BK602
            clear BK603
            clear HB
            clear HI592
            have HO585 := n0_
            have HO589 := n1_
            have BK597 := n2_
            have BK602 := n3_
            have BK603 := n4_
            have HB := n5_
            have HI592 := n6_
            clear n0_ n1_ n2_ n3_ n4_ n5_ n6_
            (try clear hb)
            (try clear hb2)
            (try clear hk)
            (try clear hi)
            refine hK.out _ _ ⟨(blk_cell BK602.out 0).trans rfl, (blk_cell BK602.out 1).trans rfl, (blk_cell BK597.out 0).trans rfl, (blk_cell BK597.out 1).trans rfl, (blk_cell BK603.out 0).trans rfl, (blk_cell BK603.out 1).trans rfl⟩ (fun hHeld => ?_)
            clear hK K
            refine norm_ (a' := ?_) ?_ ?_
            rotate_left
            · show Act.put _ (some 49) _ = _
              simp only [Act.put, List.setIfInBounds_toArray, List.set_cons_zero, List.set_cons_succ, i64_w, i32_w]
              rfl
            refine pure_ (i := 16) (N := some 53) (v := ?_) (a' := ?_) #[true, true, true, true, true, true, true, true, true, true, true, true, true, true, true, true, true, false] rfl rfl (any_of HT_.out (by kernel_rfl)) (fun _ _ _ h => h) (Or.inl ⟨by rfl, ?_⟩) ?_ ?_
            rotate_left
            · intro w'
              go_simp
              with_reducible rfl
            rotate_left
            · simp only [Act.put, List.setIfInBounds_toArray, List.set_cons_zero, List.set_cons_succ, i64_w, i32_w]
              rfl
            refine pure_ (i := 17) (N := some 54) (v := ?_) (a' := ?_) #[true, true, true, true, true, true, true, true, true, true, true, true, true, true, true, true, true, true] rfl rfl (any_of HT_.out (by kernel_rfl)) (fun _ _ _ h => h) (Or.inl ⟨by rfl, ?_⟩) ?_ ?_
            rotate_left
            · intro w'
              go_simp
              with_reducible rfl
            rotate_left
            · simp only [Act.put, List.setIfInBounds_toArray, List.set_cons_zero, List.set_cons_succ, i64_w, i32_w]
              rfl
            refine done_ (done_of HT_.out (by kernel_rfl)) ?_
            try go_wp2
            go_meet
            case rel => exact ⟨_, ((t607 != (t598.size : Int))), (by first | rfl | (simp; done) | (simp [*]; done)), H', ⟨by first | omega | exact Nat.le_refl _⟩, ⟨by (with_reducible repeat (first | apply Kd.R_alloc | apply Kd.R_drewN | apply Kd.R_drew)); exact HO585.out⟩, ⟨by (with_reducible repeat (first | apply Kd.R_alloc | apply Kd.R_drewN | apply Kd.R_drew)); exact HO589.out⟩, ⟨by (with_reducible repeat (first | refine blk_drewN ?_ _ | refine blk_drew ?_ | refine blk_alloc ?_ _)); exact BK597.out⟩, ⟨by (with_reducible repeat (first | refine blk_drewN ?_ _ | refine blk_drew ?_ | refine blk_alloc ?_ _)); exact BK602.out⟩, ⟨by (with_reducible repeat (first | refine blk_drewN ?_ _ | refine blk_drew ?_ | refine blk_alloc ?_ _)); exact BK603.out⟩, ⟨by repeat (first | (with_reducible first | exact HB.out | apply below_alloc | apply pw_below_drewN | apply below_drew1 | refine below_set ?_ (IsS113.ge HI592.out) | refine below_set ?_ GE597.out | refine below_set ?_ GE602.out | refine below_set ?_ GE603.out) | exact HB.out)⟩⟩
        · rw [if_neg c30] at H
          have c30b0 : (t604 == t599) = false := beq_eq_false_iff_ne.mpr c30
          have c30b1 : (t604 != t599) = true := bne_iff_ne.mpr c30
          (first | rw [c30b0] | (simp only [i64_w, i32_w]; rw [c30b0]) | skip)
          have H' := Aside0.mk H
          clear H
          try go_wp2
          have n0_ : Aside0 (Kd.R k65 65 ((((w21.setCell ⟨gb602, 0, none⟩ (.string t598)).setCell ⟨gb602, 1, none⟩ (.int .i64 t599)).setCell ⟨gb603, 0, none⟩ (.int .i64 t600)).setCell ⟨gb603, 1, none⟩ (.string t601)) w.heap.size (fun k_ => k_ ≠ gb597) v584 t582) := ⟨by (with_reducible repeat (first | apply Kd.R_alloc | apply Kd.R_drewN | apply Kd.R_drew)); exact Kd.R_mono (Kd.R_far (p := ⟨gb603, 1, none⟩) (Kd.R_far (p := ⟨gb603, 0, none⟩) (Kd.R_far (p := ⟨gb602, 1, none⟩) (Kd.R_far (p := ⟨gb602, 0, none⟩) (Kd.R_types (Kd.R_types HO585.out BK602.out (by decide)) BK603.out (by decide)) (fun _ hk => hk.1.2) (.string t598)) (fun _ hk => hk.1.2) (.int .i64 t599)) (fun _ hk => hk.2) (.int .i64 t600)) (fun _ hk => hk.2) (.string t601)) (fun _ hk => hk.1.1.2)⟩
          have n1_ : Aside0 (Kd.R k85 85 ((((w21.setCell ⟨gb602, 0, none⟩ (.string t598)).setCell ⟨gb602, 1, none⟩ (.int .i64 t599)).setCell ⟨gb603, 0, none⟩ (.int .i64 t600)).setCell ⟨gb603, 1, none⟩ (.string t601)) w.heap.size (fun k_ => k_ ≠ gb603) v588 t586) := ⟨by (with_reducible repeat (first | apply Kd.R_alloc | apply Kd.R_drewN | apply Kd.R_drew)); exact Kd.R_mono (Kd.R_far (p := ⟨gb603, 1, none⟩) (Kd.R_far (p := ⟨gb603, 0, none⟩) (Kd.R_far (p := ⟨gb602, 1, none⟩) (Kd.R_far (p := ⟨gb602, 0, none⟩) (Kd.R_mono (Kd.R_types HO589.out BK602.out (by decide)) (fun k_ hk => (⟨hk, hk.1.2⟩ : _ ∧ k_ ≠ gb603))) (fun _ hk => hk.1.2) (.string t598)) (fun _ hk => hk.1.2) (.int .i64 t599)) (fun _ hk => hk.2) (.int .i64 t600)) (fun _ hk => hk.2) (.string t601)) (fun _ hk => hk.1.1.2)⟩
          have n2_ : Aside0 (((((w21.setCell ⟨gb602, 0, none⟩ (.string t598)).setCell ⟨gb602, 1, none⟩ (.int .i64 t599)).setCell ⟨gb603, 0, none⟩ (.int .i64 t600)).setCell ⟨gb603, 1, none⟩ (.string t601)).heap[gb597]? = some (.cells #[.int .i64 t593, .string t594] 65 (0, 0))) := ⟨by (with_reducible repeat (first | refine blk_drewN ?_ _ | refine blk_drew ?_ | refine blk_alloc ?_ _)); refine blk_far ?_ NB597_603.out _; (with_reducible repeat (first | refine blk_drewN ?_ _ | refine blk_drew ?_ | refine blk_alloc ?_ _)); refine blk_far ?_ NB597_603.out _; (with_reducible repeat (first | refine blk_drewN ?_ _ | refine blk_drew ?_ | refine blk_alloc ?_ _)); refine blk_far ?_ NB597_602.out _; (with_reducible repeat (first | refine blk_drewN ?_ _ | refine blk_drew ?_ | refine blk_alloc ?_ _)); refine blk_far ?_ NB597_602.out _; (with_reducible repeat (first | refine blk_drewN ?_ _ | refine blk_drew ?_ | refine blk_alloc ?_ _)); exact BK597.out⟩
          have n3_ : Aside0 (((((w21.setCell ⟨gb602, 0, none⟩ (.string t598)).setCell ⟨gb602, 1, none⟩ (.int .i64 t599)).setCell ⟨gb603, 0, none⟩ (.int .i64 t600)).setCell ⟨gb603, 1, none⟩ (.string t601)).heap[gb602]? = some (.cells #[.string t598, .int .i64 t599] 45 (0, 0))) := ⟨by (with_reducible repeat (first | refine blk_drewN ?_ _ | refine blk_drew ?_ | refine blk_alloc ?_ _)); refine blk_far ?_ NB602_603.out _; (with_reducible repeat (first | refine blk_drewN ?_ _ | refine blk_drew ?_ | refine blk_alloc ?_ _)); refine blk_far ?_ NB602_603.out _; (with_reducible repeat (first | refine blk_drewN ?_ _ | refine blk_drew ?_ | refine blk_alloc ?_ _)); refine blk_put (cs := #[.string t598, .int .i64 0]) ?_ 1 _ rfl; (with_reducible repeat (first | refine blk_drewN ?_ _ | refine blk_drew ?_ | refine blk_alloc ?_ _)); refine blk_put (cs := #[.string (⟨#[]⟩ : ByteArray), .int .i64 0]) ?_ 0 _ rfl; (with_reducible repeat (first | refine blk_drewN ?_ _ | refine blk_drew ?_ | refine blk_alloc ?_ _)); exact BK602.out⟩
          have n4_ : Aside0 (((((w21.setCell ⟨gb602, 0, none⟩ (.string t598)).setCell ⟨gb602, 1, none⟩ (.int .i64 t599)).setCell ⟨gb603, 0, none⟩ (.int .i64 t600)).setCell ⟨gb603, 1, none⟩ (.string t601)).heap[gb603]? = some (.cells #[.int .i64 t600, .string t601] 85 (0, 0))) := ⟨by (with_reducible repeat (first | refine blk_drewN ?_ _ | refine blk_drew ?_ | refine blk_alloc ?_ _)); refine blk_put (cs := #[.int .i64 t600, .string (⟨#[]⟩ : ByteArray)]) ?_ 1 _ rfl; (with_reducible repeat (first | refine blk_drewN ?_ _ | refine blk_drew ?_ | refine blk_alloc ?_ _)); refine blk_put (cs := #[.int .i64 0, .string (⟨#[]⟩ : ByteArray)]) ?_ 0 _ rfl; (with_reducible repeat (first | refine blk_drewN ?_ _ | refine blk_drew ?_ | refine blk_alloc ?_ _)); refine blk_far ?_ NB603_602.out _; (with_reducible repeat (first | refine blk_drewN ?_ _ | refine blk_drew ?_ | refine blk_alloc ?_ _)); refine blk_far ?_ NB603_602.out _; (with_reducible repeat (first | refine blk_drewN ?_ _ | refine blk_drew ?_ | refine blk_alloc ?_ _)); exact BK603.out⟩
          have n5_ : Aside0 (IsS113 w ((((w21.setCell ⟨gb602, 0, none⟩ (.string t598)).setCell ⟨gb602, 1, none⟩ (.int .i64 t599)).setCell ⟨gb603, 0, none⟩ (.int .i64 t600)).setCell ⟨gb603, 1, none⟩ (.string t601)) g592 t595 t596) := ⟨by repeat (first | (with_reducible first | exact HI592.out | apply IsS113.alloc | apply IsS113.drewN | apply IsS113.drew | apply IsS113.set_0 | apply IsS113.set_1 | refine IsS113.far ?_ NB592_597.out _ | refine IsS113.far ?_ NB592_602.out _ | refine IsS113.far ?_ NB592_603.out _) | exact HI592.out)⟩
          have n6_ : Aside0 (Below w.heap.size w ((((w21.setCell ⟨gb602, 0, none⟩ (.string t598)).setCell ⟨gb602, 1, none⟩ (.int .i64 t599)).setCell ⟨gb603, 0, none⟩ (.int .i64 t600)).setCell ⟨gb603, 1, none⟩ (.string t601))) := ⟨by repeat (first | (with_reducible first | exact HB.out | apply below_alloc | apply pw_below_drewN | apply below_drew1 | refine below_set ?_ (IsS113.ge HI592.out) | refine below_set ?_ GE597.out | refine below_set ?_ GE602.out | refine below_set ?_ GE603.out) | exact HB.out)⟩
          (try clear HO585)
          (try clear HO589)
          (try clear BK597)
          (try clear BK602)
          (try clear BK603)
          (try clear HI592)
          (try clear HB)
          generalize ((((w21.setCell ⟨gb602, 0, none⟩ (.string t598)).setCell ⟨gb602, 1, none⟩ (.int .i64 t599)).setCell ⟨gb603, 0, none⟩ (.int .i64 t600)).setCell ⟨gb603, 1, none⟩ (.string t601)) = w40 at n0_ n1_ n2_ n3_ n4_ n5_ n6_ ⊢
          have HO585 := n0_
          have HO589 := n1_
          have BK597 := n2_
          have BK602 := n3_
          have BK603 := n4_
          have HI592 := n5_
          have HB := n6_
          clear n0_ n1_ n2_ n3_ n4_ n5_ n6_
          have n0_ := Aside0.mk (Kd.R_drew HO585.out)
          have n1_ := Aside0.mk (Kd.R_drew HO589.out)
          have n2_ := Aside0.mk (blk_drew BK597.out)
          have n3_ := Aside0.mk (blk_drew BK602.out)
          have n4_ := Aside0.mk (blk_drew BK603.out)
          have n5_ := Aside0.mk (IsS113.drew HI592.out)
          have n6_ := Aside0.mk (below_drew1 HB.out)
          clear HO585
          clear HO589
          clear BK597
          clear BK602
          clear BK603
          clear HI592
          clear HB
          have HO585 := n0_
          have HO589 := n1_
          have BK597 := n2_
          have BK602 := n3_
          have BK603 := n4_
          have HI592 := n5_
          have HB := n6_
          clear n0_ n1_ n2_ n3_ n4_ n5_ n6_
          refine start_ (n := 18) (S := fun w' => w'.cell? ⟨gb602, 0, none⟩ = some (.string t598) ∧ w'.cell? ⟨gb602, 1, none⟩ = some (.int .i64 t599)) (ds := []) #[false, false, false, false, false, false, false, false, false, false, false, false, false, false, false, false, false, false] (by kernel_rfl) rfl rfl ⟨(blk_cell BK602.out 0).trans rfl, (blk_cell BK602.out 1).trans rfl⟩ (fun hHeld => ?_); refine with_tabW crosswaylaw04_ParamReads.tab7 crosswaylaw04_ParamReads.bits7 (fun HT_ HW_ => ?_)
          generalize w40.drew = w41 at HO585 HO589 BK597 BK602 BK603 HI592 HB hHeld ⊢
          refine pure_ (i := 0) (N := some 37) (v := ?_) (a' := ?_) #[true, false, false, false, false, false, false, false, false, false, false, false, false, false, false, false, false, false] rfl rfl (any_of HT_.out (by kernel_rfl)) (fun _ _ _ h => h) (Or.inl ⟨by rfl, ?_⟩) ?_ ?_
          rotate_left
          · intro w'
            go_simp
            with_reducible rfl
          rotate_left
          · simp only [Act.put, List.setIfInBounds_toArray, List.set_cons_zero, List.set_cons_succ, i64_w, i32_w]
            rfl
          refine pure_ (i := 2) (N := some 39) (v := ?_) (a' := ?_) #[true, false, true, false, false, false, false, false, false, false, false, false, false, false, false, false, false, false] rfl rfl (any_of HT_.out (by kernel_rfl)) (fun _ _ _ h => h) (Or.inl ⟨by rfl, ?_⟩) ?_ ?_
          rotate_left
          · intro w'
            go_simp
            with_reducible rfl
          rotate_left
          · simp only [Act.put, List.setIfInBounds_toArray, List.set_cons_zero, List.set_cons_succ, i64_w, i32_w]
            rfl
          refine take_ (i := 3) (N := some 40) (v := ?_) (a' := ?_) #[true, false, true, true, false, false, false, false, false, false, false, false, false, false, false, false, false, false] rfl rfl (take_ofW HT_.out HW_.out (by kernel_rfl)) (fun _ _ _ h => h) (Or.inl ⟨by rfl, ?_⟩) hHeld ?_ ?_
          rotate_left
          · rintro w' ⟨s0, s1⟩
            go_simp
            with_reducible rfl
          rotate_left
          · simp only [Act.put, List.setIfInBounds_toArray, List.set_cons_zero, List.set_cons_succ, i64_w, i32_w]
            rfl
          refine one_ (i := 1) (N := some 38) #[true, true, true, true, false, false, false, false, false, false, false, false, false, false, false, false, false, false] rfl rfl (one_of HT_.out (by kernel_rfl)) (by decide) (fun K hK => ?_)
          refine goes_ Try.func41 (by kernel_rfl) rfl #[.pointer (some ⟨g592, 0, none⟩)] (by rfl) rfl rfl (by (try simp only [List.map_toArray, List.map_cons, List.map_nil]); first | done | rfl | (simp only [List.length_drop, List.length_take]; rfl)) ?_
          with_reducible refine (octet_Reader_Err.calls g592 t595 t596 t604 t605 t606 w _ ?side1 ?side2 A29.out).mono ?_
          (case side1 => repeat (first | (with_reducible first | exact HI592.out | apply IsS113.alloc | apply IsS113.drewN | apply IsS113.drew | apply IsS113.set_0 | apply IsS113.set_1 | refine IsS113.far ?_ NB592_597.out _ | refine IsS113.far ?_ NB592_602.out _ | refine IsS113.far ?_ NB592_603.out _) | exact HI592.out))
          (case side2 => repeat (first | (with_reducible first | exact HB.out | apply below_alloc | apply pw_below_drewN | apply below_drew1 | refine below_set ?_ (IsS113.ge HI592.out) | refine below_set ?_ GE597.out | refine below_set ?_ GE602.out | refine below_set ?_ GE603.out) | exact HB.out))
          rintro e w42 ⟨rfl, hi, hb, hk⟩
          refine ⟨_, rfl, ?_⟩
          have n0_ := Aside0.mk (Kd.R_mono (Kd.R_keep (IsS113.apart (show IsS113 w _ g592 t595 t596 from by repeat (first | (with_reducible first | exact HI592.out | apply IsS113.alloc | apply IsS113.drewN | apply IsS113.drew | apply IsS113.set_0 | apply IsS113.set_1 | refine IsS113.far ?_ NB592_597.out _ | refine IsS113.far ?_ NB592_602.out _ | refine IsS113.far ?_ NB592_603.out _) | exact HI592.out)) (by (with_reducible repeat (first | apply Kd.R_alloc | apply Kd.R_drewN | apply Kd.R_drew)); exact HO585.out) (by decide)) hk (fun _ h => h.2)) (fun _ h => h.1))
          have n1_ := Aside0.mk (Kd.R_mono (Kd.R_keep (IsS113.apart (show IsS113 w _ g592 t595 t596 from by repeat (first | (with_reducible first | exact HI592.out | apply IsS113.alloc | apply IsS113.drewN | apply IsS113.drew | apply IsS113.set_0 | apply IsS113.set_1 | refine IsS113.far ?_ NB592_597.out _ | refine IsS113.far ?_ NB592_602.out _ | refine IsS113.far ?_ NB592_603.out _) | exact HI592.out)) (by (with_reducible repeat (first | apply Kd.R_alloc | apply Kd.R_drewN | apply Kd.R_drew)); exact HO589.out) (by decide)) hk (fun _ h => h.2)) (fun _ h => h.1))
          have n2_ := Aside0.mk (KeepBut.blk hk (g' := gb597) (o := .cells #[.int .i64 t593, .string t594] 65 (0, 0)) (by (with_reducible repeat (first | refine blk_drewN ?_ _ | refine blk_drew ?_ | refine blk_alloc ?_ _)); exact BK597.out) NB597_592.out (by simp))
          have n3_ := Aside0.mk (KeepBut.blk hk (g' := gb602) (o := .cells #[.string t598, .int .i64 t599] 45 (0, 0)) (by (with_reducible repeat (first | refine blk_drewN ?_ _ | refine blk_drew ?_ | refine blk_alloc ?_ _)); exact BK602.out) NB602_592.out (by simp))
          have n4_ := Aside0.mk (KeepBut.blk hk (g' := gb603) (o := .cells #[.int .i64 t600, .string t601] 85 (0, 0)) (by (with_reducible repeat (first | refine blk_drewN ?_ _ | refine blk_drew ?_ | refine blk_alloc ?_ _)); exact BK603.out) NB603_592.out (by simp))
          have n5_ := Aside0.mk (hb)
          have n6_ := Aside0.mk (hi)
          clear HO585
          clear HO589
          clear BK597
          clear BK602
          clear BK603
          clear HB
          clear HI592
          have HO585 := n0_
          have HO589 := n1_
          have BK597 := n2_
          have BK602 := n3_
          have BK603 := n4_
          have HB := n5_
          have HI592 := n6_
          clear n0_ n1_ n2_ n3_ n4_ n5_ n6_
          (try clear hb)
          (try clear hb2)
          (try clear hk)
          (try clear hi)
          refine hK.out _ _ ⟨(blk_cell BK602.out 0).trans rfl, (blk_cell BK602.out 1).trans rfl⟩ (fun hHeld => ?_)
          clear hK K
          refine norm_ (a' := ?_) ?_ ?_
          rotate_left
          · show Act.put _ (some 38) _ = _
            simp only [Act.put, List.setIfInBounds_toArray, List.set_cons_zero, List.set_cons_succ, i64_w, i32_w]
            rfl
          refine pure_ (i := 4) (N := some 41) (v := ?_) (a' := ?_) #[true, true, true, true, true, false, false, false, false, false, false, false, false, false, false, false, false, false] rfl rfl (any_of HT_.out (by kernel_rfl)) (fun _ _ _ h => h) (Or.inl ⟨by rfl, ?_⟩) ?_ ?_
          rotate_left
          · intro w'
            go_simp
            with_reducible rfl
          rotate_left
          · simp only [Act.put, List.setIfInBounds_toArray, List.set_cons_zero, List.set_cons_succ, i64_w, i32_w]
            rfl
          refine pure_ (i := 5) (N := some 42) (v := ?_) (a' := ?_) #[true, true, true, true, true, true, false, false, false, false, false, false, false, false, false, false, false, false] rfl rfl (any_of HT_.out (by kernel_rfl)) (fun _ _ _ h => h) (Or.inl ⟨by rfl, ?_⟩) ?_ ?_
          rotate_left
          · intro w'
            go_simp
            with_reducible rfl
          rotate_left
          · simp only [Act.put, List.setIfInBounds_toArray, List.set_cons_zero, List.set_cons_succ, i64_w, i32_w]
            rfl
          refine pure_ (i := 6) (N := some 43) (v := undef) (a' := ?_) #[true, true, true, true, true, true, true, false, false, false, false, false, false, false, false, false, false, false] rfl rfl (any_of HT_.out (by kernel_rfl)) (fun _ _ _ h => h) (Or.inr ⟨by rfl, rfl⟩) ?_ ?_
          rotate_left
          · simp only [Act.put, List.setIfInBounds_toArray, List.set_cons_zero, List.set_cons_succ, i64_w, i32_w]
            rfl
          refine pure_ (i := 7) (N := some 44) (v := undef) (a' := ?_) #[true, true, true, true, true, true, true, true, false, false, false, false, false, false, false, false, false, false] rfl rfl (any_of HT_.out (by kernel_rfl)) (fun _ _ _ h => h) (Or.inr ⟨by rfl, rfl⟩) ?_ ?_
          rotate_left
          · simp only [Act.put, List.setIfInBounds_toArray, List.set_cons_zero, List.set_cons_succ, i64_w, i32_w]
            rfl
          refine pure_ (i := 8) (N := some 45) (v := undef) (a' := ?_) #[true, true, true, true, true, true, true, true, true, false, false, false, false, false, false, false, false, false] rfl rfl (any_of HT_.out (by kernel_rfl)) (fun _ _ _ h => h) (Or.inr ⟨by rfl, rfl⟩) ?_ ?_
          rotate_left
          · simp only [Act.put, List.setIfInBounds_toArray, List.set_cons_zero, List.set_cons_succ, i64_w, i32_w]
            rfl
          refine pure_ (i := 9) (N := some 46) (v := ?_) (a' := ?_) #[true, true, true, true, true, true, true, true, true, true, false, false, false, false, false, false, false, false] rfl rfl (any_of HT_.out (by kernel_rfl)) (fun _ _ _ h => h) (Or.inl ⟨by rfl, ?_⟩) ?_ ?_
          rotate_left
          · intro w'
            go_simp
            with_reducible rfl
          rotate_left
          · simp only [Act.put, List.setIfInBounds_toArray, List.set_cons_zero, List.set_cons_succ, i64_w, i32_w]
            rfl
          refine pure_ (i := 10) (N := some 47) (v := ?_) (a' := ?_) #[true, true, true, true, true, true, true, true, true, true, true, false, false, false, false, false, false, false] rfl rfl (any_of HT_.out (by kernel_rfl)) (fun _ _ _ h => h) (Or.inl ⟨by rfl, ?_⟩) ?_ ?_
          rotate_left
          · intro w'
            go_simp
            with_reducible rfl
          rotate_left
          · simp only [Act.put, List.setIfInBounds_toArray, List.set_cons_zero, List.set_cons_succ, i64_w, i32_w]
            rfl
          refine pure_ (i := 11) (N := some 48) (v := undef) (a' := ?_) #[true, true, true, true, true, true, true, true, true, true, true, true, false, false, false, false, false, false] rfl rfl (any_of HT_.out (by kernel_rfl)) (fun _ _ _ h => h) (Or.inr ⟨by rfl, rfl⟩) ?_ ?_
          rotate_left
          · simp only [Act.put, List.setIfInBounds_toArray, List.set_cons_zero, List.set_cons_succ, i64_w, i32_w]
            rfl
          refine pure_ (i := 12) (N := some 49) (v := undef) (a' := ?_) #[true, true, true, true, true, true, true, true, true, true, true, true, true, false, false, false, false, false] rfl rfl (any_of HT_.out (by kernel_rfl)) (fun _ _ _ h => h) (Or.inr ⟨by rfl, rfl⟩) ?_ ?_
          rotate_left
          · simp only [Act.put, List.setIfInBounds_toArray, List.set_cons_zero, List.set_cons_succ, i64_w, i32_w]
            rfl
          refine pure_ (i := 13) (N := some 50) (v := undef) (a' := ?_) #[true, true, true, true, true, true, true, true, true, true, true, true, true, true, false, false, false, false] rfl rfl (any_of HT_.out (by kernel_rfl)) (fun _ _ _ h => h) (Or.inr ⟨by rfl, rfl⟩) ?_ ?_
          rotate_left
          · simp only [Act.put, List.setIfInBounds_toArray, List.set_cons_zero, List.set_cons_succ, i64_w, i32_w]
            rfl
          refine pure_ (i := 14) (N := some 51) (v := undef) (a' := ?_) #[true, true, true, true, true, true, true, true, true, true, true, true, true, true, true, false, false, false] rfl rfl (any_of HT_.out (by kernel_rfl)) (fun _ _ _ h => h) (Or.inr ⟨by rfl, rfl⟩) ?_ ?_
          rotate_left
          · simp only [Act.put, List.setIfInBounds_toArray, List.set_cons_zero, List.set_cons_succ, i64_w, i32_w]
            rfl
          refine pure_ (i := 15) (N := some 52) (v := undef) (a' := ?_) #[true, true, true, true, true, true, true, true, true, true, true, true, true, true, true, true, false, false] rfl rfl (any_of HT_.out (by kernel_rfl)) (fun _ _ _ h => h) (Or.inr ⟨by rfl, rfl⟩) ?_ ?_
          rotate_left
          · simp only [Act.put, List.setIfInBounds_toArray, List.set_cons_zero, List.set_cons_succ, i64_w, i32_w]
            rfl
          refine pure_ (i := 16) (N := some 53) (v := undef) (a' := ?_) #[true, true, true, true, true, true, true, true, true, true, true, true, true, true, true, true, true, false] rfl rfl (any_of HT_.out (by kernel_rfl)) (fun _ _ _ h => h) (Or.inr ⟨by rfl, rfl⟩) ?_ ?_
          rotate_left
          · simp only [Act.put, List.setIfInBounds_toArray, List.set_cons_zero, List.set_cons_succ, i64_w, i32_w]
            rfl
          refine pure_ (i := 17) (N := some 54) (v := ?_) (a' := ?_) #[true, true, true, true, true, true, true, true, true, true, true, true, true, true, true, true, true, true] rfl rfl (any_of HT_.out (by kernel_rfl)) (fun _ _ _ h => h) (Or.inl ⟨by rfl, ?_⟩) ?_ ?_
          rotate_left
          · intro w'
            go_simp
            with_reducible rfl
          rotate_left
          · simp only [Act.put, List.setIfInBounds_toArray, List.set_cons_zero, List.set_cons_succ, i64_w, i32_w]
            rfl
          refine done_ (done_of HT_.out (by kernel_rfl)) ?_
          try go_wp2
          go_meet
          case rel => exact ⟨_, (true), (by first | rfl | (simp; done) | (simp [*]; done)), H', ⟨by first | omega | exact Nat.le_refl _⟩, ⟨by (with_reducible repeat (first | apply Kd.R_alloc | apply Kd.R_drewN | apply Kd.R_drew)); exact HO585.out⟩, ⟨by (with_reducible repeat (first | apply Kd.R_alloc | apply Kd.R_drewN | apply Kd.R_drew)); exact HO589.out⟩, ⟨by (with_reducible repeat (first | refine blk_drewN ?_ _ | refine blk_drew ?_ | refine blk_alloc ?_ _)); exact BK597.out⟩, ⟨by (with_reducible repeat (first | refine blk_drewN ?_ _ | refine blk_drew ?_ | refine blk_alloc ?_ _)); exact BK602.out⟩, ⟨by (with_reducible repeat (first | refine blk_drewN ?_ _ | refine blk_drew ?_ | refine blk_alloc ?_ _)); exact BK603.out⟩, ⟨by repeat (first | (with_reducible first | exact HB.out | apply below_alloc | apply pw_below_drewN | apply below_drew1 | refine below_set ?_ (IsS113.ge HI592.out) | refine below_set ?_ GE597.out | refine below_set ?_ GE602.out | refine below_set ?_ GE603.out) | exact HB.out)⟩⟩
      case rest =>
        clear HC11
        try clear p2
        try clear c3
        try clear c4
        try clear c30
        try clear c30b0
        try clear c30b1
        try clear c31
        try clear c31b0
        try clear c41
        try clear c42
        obtain ⟨kq, x54_10, rfl, HA, HJ10, HO_4, HO_6, BK597, BK602, BK603, HB⟩ := hcut
        cases kq with
        | zero => exact absurd HA.out (by simp [crosswaylaw04_ParamReads.j0])
        | succ kj10 =>
          have H := HA.out
          clear HA
          simp only [crosswaylaw04_ParamReads.j0] at H
          by_cases c43 : x54_10 = true
          · subst c43
            have H1 : (some false) = some r := by rw [if_pos rfl] at H; exact H
            clear H
            have H := H1
            clear H1
            obtain rfl := Option.some.inj H
            go_wp2
            go_ret
            exact ⟨by first | rfl | (simp [errW_none, errW_some] <;> rfl) | (simp only [← hji2, ← hst5]; first | rfl | (simp [errW_none, errW_some] <;> rfl)) | (simp [*, errW_none, errW_some] <;> rfl), by repeat (first | (with_reducible first | exact HB.out | apply below_alloc | apply pw_below_drewN | apply below_drew1 | refine below_set ?_ GE597.out | refine below_set ?_ GE602.out | refine below_set ?_ GE603.out) | exact HB.out)⟩
          · replace c43 := Bool.eq_false_iff.mpr c43
            subst c43
            have H1 : ((crosswaylaw04_awake.f kj10).bind fun t610 => (if t610 = true then (if t583 = t587 then ((crosswaylaw04_same.f kj10 t582 t586).bind fun t611 => (if t611 = true then (if t583 = 0 then ((param_PutAll.f kj10 t582).bind fun t612 => (some (t612.toList == st5.toList))) else (some true)) else (some false))) else (some false)) else (some false))) = some r := by rw [if_neg (show ¬ (false = true) by decide)] at H; exact H
            clear H
            have H := H1
            clear H1
            replace H := Option.bind_eq_some_iff.mp H
            obtain ⟨t610, A440, H⟩ := H
            replace H : (if t610 = true then (if t583 = t587 then ((crosswaylaw04_same.f kj10 t582 t586).bind fun t611 => (if t611 = true then (if t583 = 0 then ((param_PutAll.f kj10 t582).bind fun t612 => (some (t612.toList == st5.toList))) else (some true)) else (some false))) else (some false)) else (some false)) = some r := H
            have A44 := Aside0.mk A440
            clear A440
            by_cases c45 : t610 = true
            · subst c45
              have H1 : (if t583 = t587 then ((crosswaylaw04_same.f kj10 t582 t586).bind fun t611 => (if t611 = true then (if t583 = 0 then ((param_PutAll.f kj10 t582).bind fun t612 => (some (t612.toList == st5.toList))) else (some true)) else (some false))) else (some false)) = some r := by rw [if_pos rfl] at H; exact H
              clear H
              have H := H1
              clear H1
              by_cases c46 : t583 = t587
              · rw [if_pos c46] at H
                have c46b0 : (t583 == t587) = true := beq_iff_eq.mpr c46
                have c46b1 : (t583 != t587) = false := bne_eq_false_iff_eq.mpr c46
                clear c46
                replace H := Option.bind_eq_some_iff.mp H
                obtain ⟨t611, A470, H⟩ := H
                replace H : (if t611 = true then (if t583 = 0 then ((param_PutAll.f kj10 t582).bind fun t612 => (some (t612.toList == st5.toList))) else (some true)) else (some false)) = some r := H
                have A47 := Aside0.mk A470
                clear A470
                by_cases c48 : t611 = true
                · subst c48
                  have H1 : (if t583 = 0 then ((param_PutAll.f kj10 t582).bind fun t612 => (some (t612.toList == st5.toList))) else (some true)) = some r := by rw [if_pos rfl] at H; exact H
                  clear H
                  have H := H1
                  clear H1
                  by_cases c49 : t583 = 0
                  · rw [if_pos c49] at H
                    have c49b0 : (t583 == 0) = true := beq_iff_eq.mpr c49
                    have c49b1 : (t583 != 0) = false := bne_eq_false_iff_eq.mpr c49
                    clear c49
                    replace H := Option.bind_eq_some_iff.mp H
                    obtain ⟨t612, A500, H⟩ := H
                    replace H : (some (t612.toList == st5.toList)) = some r := H
                    have A50 := Aside0.mk A500
                    clear A500
                    obtain rfl := Option.some.inj H
                    go_wp2_with (first | ((with_reducible refine gate_callee (f := 47) rfl ?_); refine goesL_ (some 55) rfl rfl Try.func47 (by kernel_rfl) rfl #[] rfl (by (try simp only [List.map_toArray, List.map_cons, List.map_nil]); first | done | rfl | (simp only [List.length_drop, List.length_take]; rfl)) ?_; (with_reducible refine (crosswaylaw04_awake.calls kj10  true _ A44.out).mono ?_); rintro e w51 ⟨rfl, hb⟩; refine ⟨_, rfl, ?_⟩; have n0_ := Aside0.mk (Kd.R_below (by (with_reducible repeat (first | apply Kd.R_alloc | apply Kd.R_drewN | apply Kd.R_drew)); exact HO_4.out) hb); have n1_ := Aside0.mk (Kd.R_below (by (with_reducible repeat (first | apply Kd.R_alloc | apply Kd.R_drewN | apply Kd.R_drew)); exact HO_6.out) hb); have n2_ := Aside0.mk (blk_below (g := gb597) (o := .cells #[.int .i64 t593, .string t594] 65 (0, 0)) (by (with_reducible repeat (first | refine blk_drewN ?_ _ | refine blk_drew ?_ | refine blk_alloc ?_ _)); exact BK597.out) hb); have n3_ := Aside0.mk (blk_below (g := gb602) (o := .cells #[.string t598, .int .i64 t599] 45 (0, 0)) (by (with_reducible repeat (first | refine blk_drewN ?_ _ | refine blk_drew ?_ | refine blk_alloc ?_ _)); exact BK602.out) hb); have n4_ := Aside0.mk (blk_below (g := gb603) (o := .cells #[.int .i64 t600, .string t601] 85 (0, 0)) (by (with_reducible repeat (first | refine blk_drewN ?_ _ | refine blk_drew ?_ | refine blk_alloc ?_ _)); exact BK603.out) hb); have n5_ := Aside0.mk (below_step (by repeat (first | (with_reducible first | exact HB.out | apply below_alloc | apply pw_below_drewN | apply below_drew1 | refine below_set ?_ GE597.out | refine below_set ?_ GE602.out | refine below_set ?_ GE603.out) | exact HB.out)) hb); clear HO_4; clear HO_6; clear BK597; clear BK602; clear BK603; clear HB; have HO_4 := n0_; have HO_6 := n1_; have BK597 := n2_; have BK602 := n3_; have BK603 := n4_; have HB := n5_; clear n0_ n1_ n2_ n3_ n4_ n5_; (try clear hb); (try clear hb2); (try clear hk); (try clear hi); obtain ⟨Ao52, co52, eo52⟩ := Kd.R_slice HO_4.out; subst eo52; obtain ⟨Ao53, co53, eo53⟩ := Kd.R_slice HO_6.out; subst eo53) | (go_at_call 66; (with_reducible refine (crosswaylaw04_same.calls kj10 _ _ t582 _ _ t586 true _ ?side1 ?side2 ?side3 ?side4 A47.out).mono ?_); (case side1 => repeat (first | exact (Kd.R_reads' HO_4.out).2.2 | (with_reducible refine Kd.C_alloc ?_ _) | (with_reducible refine Kd.C_drewN ?_ _) | (with_reducible refine Kd.C_drew ?_))); (case side2 => exact (Kd.R_reads' HO_4.out).2.1); (case side3 => repeat (first | exact (Kd.R_reads' HO_6.out).2.2 | (with_reducible refine Kd.C_alloc ?_ _) | (with_reducible refine Kd.C_drewN ?_ _) | (with_reducible refine Kd.C_drew ?_))); (case side4 => exact (Kd.R_reads' HO_6.out).2.1); rintro e w' ⟨rfl, ⟨nd, rfl⟩⟩) | (go_at_call 67; (with_reducible refine (param_PutAll.calls kj10 _ _ t582 t612 _ ?side1 ?side2 A50.out).mono ?_); (case side1 => repeat (first | exact (Kd.R_reads' HO_4.out).2.2 | (with_reducible refine Kd.C_alloc ?_ _) | (with_reducible refine Kd.C_drewN ?_ _) | (with_reducible refine Kd.C_drew ?_))); (case side2 => exact (Kd.R_reads' HO_4.out).2.1); rintro e w54 ⟨rfl, hb⟩; have n0_ := Aside0.mk (Kd.R_below (by (with_reducible repeat (first | apply Kd.R_alloc | apply Kd.R_drewN | apply Kd.R_drew)); exact HO_4.out) hb); have n1_ := Aside0.mk (Kd.R_below (by (with_reducible repeat (first | apply Kd.R_alloc | apply Kd.R_drewN | apply Kd.R_drew)); exact HO_6.out) hb); have n2_ := Aside0.mk (blk_below (g := gb597) (o := .cells #[.int .i64 t593, .string t594] 65 (0, 0)) (by (with_reducible repeat (first | refine blk_drewN ?_ _ | refine blk_drew ?_ | refine blk_alloc ?_ _)); exact BK597.out) hb); have n3_ := Aside0.mk (blk_below (g := gb602) (o := .cells #[.string t598, .int .i64 t599] 45 (0, 0)) (by (with_reducible repeat (first | refine blk_drewN ?_ _ | refine blk_drew ?_ | refine blk_alloc ?_ _)); exact BK602.out) hb); have n4_ := Aside0.mk (blk_below (g := gb603) (o := .cells #[.int .i64 t600, .string t601] 85 (0, 0)) (by (with_reducible repeat (first | refine blk_drewN ?_ _ | refine blk_drew ?_ | refine blk_alloc ?_ _)); exact BK603.out) hb); have n5_ := Aside0.mk (below_step (by repeat (first | (with_reducible first | exact HB.out | apply below_alloc | apply pw_below_drewN | apply below_drew1 | refine below_set ?_ GE597.out | refine below_set ?_ GE602.out | refine below_set ?_ GE603.out) | exact HB.out)) hb); clear HO_4; clear HO_6; clear BK597; clear BK602; clear BK603; clear HB; have HO_4 := n0_; have HO_6 := n1_; have BK597 := n2_; have BK602 := n3_; have BK603 := n4_; have HB := n5_; clear n0_ n1_ n2_ n3_ n4_ n5_; (try clear hb); (try clear hb2); (try clear hk); (try clear hi)))
                    go_ret
                    exact ⟨by first | rfl | (simp [errW_none, errW_some] <;> rfl) | (simp only [← hji2, ← hst5]; first | rfl | (simp [errW_none, errW_some] <;> rfl)) | (simp [*, errW_none, errW_some] <;> rfl), by repeat (first | (with_reducible first | exact HB.out | apply below_alloc | apply pw_below_drewN | apply below_drew1 | refine below_set ?_ GE597.out | refine below_set ?_ GE602.out | refine below_set ?_ GE603.out) | exact HB.out)⟩
                  · rw [if_neg c49] at H
                    have c49b0 : (t583 == 0) = false := beq_eq_false_iff_ne.mpr c49
                    have c49b1 : (t583 != 0) = true := bne_iff_ne.mpr c49
                    obtain rfl := Option.some.inj H
                    go_wp2_with (first | ((with_reducible refine gate_callee (f := 47) rfl ?_); refine goesL_ (some 55) rfl rfl Try.func47 (by kernel_rfl) rfl #[] rfl (by (try simp only [List.map_toArray, List.map_cons, List.map_nil]); first | done | rfl | (simp only [List.length_drop, List.length_take]; rfl)) ?_; (with_reducible refine (crosswaylaw04_awake.calls kj10  true _ A44.out).mono ?_); rintro e w55 ⟨rfl, hb⟩; refine ⟨_, rfl, ?_⟩; have n0_ := Aside0.mk (Kd.R_below (by (with_reducible repeat (first | apply Kd.R_alloc | apply Kd.R_drewN | apply Kd.R_drew)); exact HO_4.out) hb); have n1_ := Aside0.mk (Kd.R_below (by (with_reducible repeat (first | apply Kd.R_alloc | apply Kd.R_drewN | apply Kd.R_drew)); exact HO_6.out) hb); have n2_ := Aside0.mk (blk_below (g := gb597) (o := .cells #[.int .i64 t593, .string t594] 65 (0, 0)) (by (with_reducible repeat (first | refine blk_drewN ?_ _ | refine blk_drew ?_ | refine blk_alloc ?_ _)); exact BK597.out) hb); have n3_ := Aside0.mk (blk_below (g := gb602) (o := .cells #[.string t598, .int .i64 t599] 45 (0, 0)) (by (with_reducible repeat (first | refine blk_drewN ?_ _ | refine blk_drew ?_ | refine blk_alloc ?_ _)); exact BK602.out) hb); have n4_ := Aside0.mk (blk_below (g := gb603) (o := .cells #[.int .i64 t600, .string t601] 85 (0, 0)) (by (with_reducible repeat (first | refine blk_drewN ?_ _ | refine blk_drew ?_ | refine blk_alloc ?_ _)); exact BK603.out) hb); have n5_ := Aside0.mk (below_step (by repeat (first | (with_reducible first | exact HB.out | apply below_alloc | apply pw_below_drewN | apply below_drew1 | refine below_set ?_ GE597.out | refine below_set ?_ GE602.out | refine below_set ?_ GE603.out) | exact HB.out)) hb); clear HO_4; clear HO_6; clear BK597; clear BK602; clear BK603; clear HB; have HO_4 := n0_; have HO_6 := n1_; have BK597 := n2_; have BK602 := n3_; have BK603 := n4_; have HB := n5_; clear n0_ n1_ n2_ n3_ n4_ n5_; (try clear hb); (try clear hb2); (try clear hk); (try clear hi); obtain ⟨Ao56, co56, eo56⟩ := Kd.R_slice HO_4.out; subst eo56; obtain ⟨Ao57, co57, eo57⟩ := Kd.R_slice HO_6.out; subst eo57) | (go_at_call 66; (with_reducible refine (crosswaylaw04_same.calls kj10 _ _ t582 _ _ t586 true _ ?side1 ?side2 ?side3 ?side4 A47.out).mono ?_); (case side1 => repeat (first | exact (Kd.R_reads' HO_4.out).2.2 | (with_reducible refine Kd.C_alloc ?_ _) | (with_reducible refine Kd.C_drewN ?_ _) | (with_reducible refine Kd.C_drew ?_))); (case side2 => exact (Kd.R_reads' HO_4.out).2.1); (case side3 => repeat (first | exact (Kd.R_reads' HO_6.out).2.2 | (with_reducible refine Kd.C_alloc ?_ _) | (with_reducible refine Kd.C_drewN ?_ _) | (with_reducible refine Kd.C_drew ?_))); (case side4 => exact (Kd.R_reads' HO_6.out).2.1); rintro e w' ⟨rfl, ⟨nd, rfl⟩⟩))
                    go_ret
                    exact ⟨by first | rfl | (simp [errW_none, errW_some] <;> rfl) | (simp only [← hji2, ← hst5]; first | rfl | (simp [errW_none, errW_some] <;> rfl)) | (simp [*, errW_none, errW_some] <;> rfl), by repeat (first | (with_reducible first | exact HB.out | apply below_alloc | apply pw_below_drewN | apply below_drew1 | refine below_set ?_ GE597.out | refine below_set ?_ GE602.out | refine below_set ?_ GE603.out) | exact HB.out)⟩
                · replace c48 := Bool.eq_false_iff.mpr c48
                  subst c48
                  have H1 : (some false) = some r := by rw [if_neg (show ¬ (false = true) by decide)] at H; exact H
                  clear H
                  have H := H1
                  clear H1
                  obtain rfl := Option.some.inj H
                  go_wp2_with (first | ((with_reducible refine gate_callee (f := 47) rfl ?_); refine goesL_ (some 55) rfl rfl Try.func47 (by kernel_rfl) rfl #[] rfl (by (try simp only [List.map_toArray, List.map_cons, List.map_nil]); first | done | rfl | (simp only [List.length_drop, List.length_take]; rfl)) ?_; (with_reducible refine (crosswaylaw04_awake.calls kj10  true _ A44.out).mono ?_); rintro e w58 ⟨rfl, hb⟩; refine ⟨_, rfl, ?_⟩; have n0_ := Aside0.mk (Kd.R_below (by (with_reducible repeat (first | apply Kd.R_alloc | apply Kd.R_drewN | apply Kd.R_drew)); exact HO_4.out) hb); have n1_ := Aside0.mk (Kd.R_below (by (with_reducible repeat (first | apply Kd.R_alloc | apply Kd.R_drewN | apply Kd.R_drew)); exact HO_6.out) hb); have n2_ := Aside0.mk (blk_below (g := gb597) (o := .cells #[.int .i64 t593, .string t594] 65 (0, 0)) (by (with_reducible repeat (first | refine blk_drewN ?_ _ | refine blk_drew ?_ | refine blk_alloc ?_ _)); exact BK597.out) hb); have n3_ := Aside0.mk (blk_below (g := gb602) (o := .cells #[.string t598, .int .i64 t599] 45 (0, 0)) (by (with_reducible repeat (first | refine blk_drewN ?_ _ | refine blk_drew ?_ | refine blk_alloc ?_ _)); exact BK602.out) hb); have n4_ := Aside0.mk (blk_below (g := gb603) (o := .cells #[.int .i64 t600, .string t601] 85 (0, 0)) (by (with_reducible repeat (first | refine blk_drewN ?_ _ | refine blk_drew ?_ | refine blk_alloc ?_ _)); exact BK603.out) hb); have n5_ := Aside0.mk (below_step (by repeat (first | (with_reducible first | exact HB.out | apply below_alloc | apply pw_below_drewN | apply below_drew1 | refine below_set ?_ GE597.out | refine below_set ?_ GE602.out | refine below_set ?_ GE603.out) | exact HB.out)) hb); clear HO_4; clear HO_6; clear BK597; clear BK602; clear BK603; clear HB; have HO_4 := n0_; have HO_6 := n1_; have BK597 := n2_; have BK602 := n3_; have BK603 := n4_; have HB := n5_; clear n0_ n1_ n2_ n3_ n4_ n5_; (try clear hb); (try clear hb2); (try clear hk); (try clear hi); obtain ⟨Ao59, co59, eo59⟩ := Kd.R_slice HO_4.out; subst eo59; obtain ⟨Ao60, co60, eo60⟩ := Kd.R_slice HO_6.out; subst eo60) | (go_at_call 66; (with_reducible refine (crosswaylaw04_same.calls kj10 _ _ t582 _ _ t586 false _ ?side1 ?side2 ?side3 ?side4 A47.out).mono ?_); (case side1 => repeat (first | exact (Kd.R_reads' HO_4.out).2.2 | (with_reducible refine Kd.C_alloc ?_ _) | (with_reducible refine Kd.C_drewN ?_ _) | (with_reducible refine Kd.C_drew ?_))); (case side2 => exact (Kd.R_reads' HO_4.out).2.1); (case side3 => repeat (first | exact (Kd.R_reads' HO_6.out).2.2 | (with_reducible refine Kd.C_alloc ?_ _) | (with_reducible refine Kd.C_drewN ?_ _) | (with_reducible refine Kd.C_drew ?_))); (case side4 => exact (Kd.R_reads' HO_6.out).2.1); rintro e w' ⟨rfl, ⟨nd, rfl⟩⟩))
                  go_ret
                  exact ⟨by first | rfl | (simp [errW_none, errW_some] <;> rfl) | (simp only [← hji2, ← hst5]; first | rfl | (simp [errW_none, errW_some] <;> rfl)) | (simp [*, errW_none, errW_some] <;> rfl), by repeat (first | (with_reducible first | exact HB.out | apply below_alloc | apply pw_below_drewN | apply below_drew1 | refine below_set ?_ GE597.out | refine below_set ?_ GE602.out | refine below_set ?_ GE603.out) | exact HB.out)⟩
              · rw [if_neg c46] at H
                have c46b0 : (t583 == t587) = false := beq_eq_false_iff_ne.mpr c46
                have c46b1 : (t583 != t587) = true := bne_iff_ne.mpr c46
                obtain rfl := Option.some.inj H
                go_wp2_with (first | ((with_reducible refine gate_callee (f := 47) rfl ?_); refine goesL_ (some 55) rfl rfl Try.func47 (by kernel_rfl) rfl #[] rfl (by (try simp only [List.map_toArray, List.map_cons, List.map_nil]); first | done | rfl | (simp only [List.length_drop, List.length_take]; rfl)) ?_; (with_reducible refine (crosswaylaw04_awake.calls kj10  true _ A44.out).mono ?_); rintro e w61 ⟨rfl, hb⟩; refine ⟨_, rfl, ?_⟩; have n0_ := Aside0.mk (Kd.R_below (by (with_reducible repeat (first | apply Kd.R_alloc | apply Kd.R_drewN | apply Kd.R_drew)); exact HO_4.out) hb); have n1_ := Aside0.mk (Kd.R_below (by (with_reducible repeat (first | apply Kd.R_alloc | apply Kd.R_drewN | apply Kd.R_drew)); exact HO_6.out) hb); have n2_ := Aside0.mk (blk_below (g := gb597) (o := .cells #[.int .i64 t593, .string t594] 65 (0, 0)) (by (with_reducible repeat (first | refine blk_drewN ?_ _ | refine blk_drew ?_ | refine blk_alloc ?_ _)); exact BK597.out) hb); have n3_ := Aside0.mk (blk_below (g := gb602) (o := .cells #[.string t598, .int .i64 t599] 45 (0, 0)) (by (with_reducible repeat (first | refine blk_drewN ?_ _ | refine blk_drew ?_ | refine blk_alloc ?_ _)); exact BK602.out) hb); have n4_ := Aside0.mk (blk_below (g := gb603) (o := .cells #[.int .i64 t600, .string t601] 85 (0, 0)) (by (with_reducible repeat (first | refine blk_drewN ?_ _ | refine blk_drew ?_ | refine blk_alloc ?_ _)); exact BK603.out) hb); have n5_ := Aside0.mk (below_step (by repeat (first | (with_reducible first | exact HB.out | apply below_alloc | apply pw_below_drewN | apply below_drew1 | refine below_set ?_ GE597.out | refine below_set ?_ GE602.out | refine below_set ?_ GE603.out) | exact HB.out)) hb); clear HO_4; clear HO_6; clear BK597; clear BK602; clear BK603; clear HB; have HO_4 := n0_; have HO_6 := n1_; have BK597 := n2_; have BK602 := n3_; have BK603 := n4_; have HB := n5_; clear n0_ n1_ n2_ n3_ n4_ n5_; (try clear hb); (try clear hb2); (try clear hk); (try clear hi)))
                go_ret
                exact ⟨by first | rfl | (simp [errW_none, errW_some] <;> rfl) | (simp only [← hji2, ← hst5]; first | rfl | (simp [errW_none, errW_some] <;> rfl)) | (simp [*, errW_none, errW_some] <;> rfl), by repeat (first | (with_reducible first | exact HB.out | apply below_alloc | apply pw_below_drewN | apply below_drew1 | refine below_set ?_ GE597.out | refine below_set ?_ GE602.out | refine below_set ?_ GE603.out) | exact HB.out)⟩
            · replace c45 := Bool.eq_false_iff.mpr c45
              subst c45
              have H1 : (some false) = some r := by rw [if_neg (show ¬ (false = true) by decide)] at H; exact H
              clear H
              have H := H1
              clear H1
              obtain rfl := Option.some.inj H
              go_wp2_with (first | ((with_reducible refine gate_callee (f := 47) rfl ?_); refine goesL_ (some 55) rfl rfl Try.func47 (by kernel_rfl) rfl #[] rfl (by (try simp only [List.map_toArray, List.map_cons, List.map_nil]); first | done | rfl | (simp only [List.length_drop, List.length_take]; rfl)) ?_; (with_reducible refine (crosswaylaw04_awake.calls kj10  false _ A44.out).mono ?_); rintro e w62 ⟨rfl, hb⟩; refine ⟨_, rfl, ?_⟩; have n0_ := Aside0.mk (Kd.R_below (by (with_reducible repeat (first | apply Kd.R_alloc | apply Kd.R_drewN | apply Kd.R_drew)); exact HO_4.out) hb); have n1_ := Aside0.mk (Kd.R_below (by (with_reducible repeat (first | apply Kd.R_alloc | apply Kd.R_drewN | apply Kd.R_drew)); exact HO_6.out) hb); have n2_ := Aside0.mk (blk_below (g := gb597) (o := .cells #[.int .i64 t593, .string t594] 65 (0, 0)) (by (with_reducible repeat (first | refine blk_drewN ?_ _ | refine blk_drew ?_ | refine blk_alloc ?_ _)); exact BK597.out) hb); have n3_ := Aside0.mk (blk_below (g := gb602) (o := .cells #[.string t598, .int .i64 t599] 45 (0, 0)) (by (with_reducible repeat (first | refine blk_drewN ?_ _ | refine blk_drew ?_ | refine blk_alloc ?_ _)); exact BK602.out) hb); have n4_ := Aside0.mk (blk_below (g := gb603) (o := .cells #[.int .i64 t600, .string t601] 85 (0, 0)) (by (with_reducible repeat (first | refine blk_drewN ?_ _ | refine blk_drew ?_ | refine blk_alloc ?_ _)); exact BK603.out) hb); have n5_ := Aside0.mk (below_step (by repeat (first | (with_reducible first | exact HB.out | apply below_alloc | apply pw_below_drewN | apply below_drew1 | refine below_set ?_ GE597.out | refine below_set ?_ GE602.out | refine below_set ?_ GE603.out) | exact HB.out)) hb); clear HO_4; clear HO_6; clear BK597; clear BK602; clear BK603; clear HB; have HO_4 := n0_; have HO_6 := n1_; have BK597 := n2_; have BK602 := n3_; have BK603 := n4_; have HB := n5_; clear n0_ n1_ n2_ n3_ n4_ n5_; (try clear hb); (try clear hb2); (try clear hk); (try clear hi)))
              go_ret
              exact ⟨by first | rfl | (simp [errW_none, errW_some] <;> rfl) | (simp only [← hji2, ← hst5]; first | rfl | (simp [errW_none, errW_some] <;> rfl)) | (simp [*, errW_none, errW_some] <;> rfl), by repeat (first | (with_reducible first | exact HB.out | apply below_alloc | apply pw_below_drewN | apply below_drew1 | refine below_set ?_ GE597.out | refine below_set ?_ GE602.out | refine below_set ?_ GE603.out) | exact HB.out)⟩
    · rw [if_neg c4] at H
      exact absurd H (by simp)
  · rw [if_neg c3] at H
    exact absurd H (by simp)

/-- THE ONE PURE STATEMENT of crosswaylaw04_ParamReads: yours. -/
def crosswaylaw04_ParamReads.Pure : Prop := ∀ (a0 : ByteArray), a0.size ≤ 140737488351232 → ∃ k, crosswaylaw04_ParamReads.f k a0 = some true
theorem crosswaylaw04_ParamReads.walk (P : crosswaylaw04_ParamReads.Pure) (a0 : ByteArray) (w : World) (w0 : a0.size ≤ 140737488351232) :
    Calls Try.prog 13 #[.string a0] w fun e w' => e = .returned (.bool true) ∧ Below w.heap.size w w' := by
  obtain ⟨k, h⟩ := P a0 w0
  refine (crosswaylaw04_ParamReads.calls k a0 true w h).mono ?_
  rintro e w' ⟨rfl, hd⟩
  exact ⟨rfl, hd⟩

end Go.Proofs.Ytmdncojhnbbafaa.PAll
