-- Written by a program of this workplace (wip/mkprint2.py, over the kit's print) for this claim
import Derived.Test.YtmdncojhnbbafaaPAllx0
import Derived.Test.YtmdncojhnbbafaaPAllx11
import Derived.Test.YtmdncojhnbbafaaPAllx12
import Derived.Test.YtmdncojhnbbafaaPAllx13
import Derived.Test.YtmdncojhnbbafaaPAllx14
import Derived.Test.YtmdncojhnbbafaaPAllx18
import Derived.Test.YtmdncojhnbbafaaPAllx19
import Derived.Test.YtmdncojhnbbafaaPAllx20
import Derived.Test.YtmdncojhnbbafaaPAllx21
import Derived.Test.YtmdncojhnbbafaaPAllx22
import Derived.Test.YtmdncojhnbbafaaPAllx23
import Derived.Test.YtmdncojhnbbafaaPAllx24
namespace Go.Proofs.Ytmdncojhnbbafaa.PAll
open Go.RowKit Go.Proofs.YtmdncojhnbbafaaW.PrintWords Go.Proofs.YtmdncojhnbbafaaW.PrintLast Go.Proofs.YtmdncojhnbbafaaW.PrintMore
attribute [local go_sem] max2_int min2_int max_two min_two max_three min_three max_four min_four   -- for this text's walks alone
set_option linter.unusedVariables false
set_option linter.unusedSimpArgs false

/-! ### crosswaylaw03_OctetReads: function 5 -/
mutual
def crosswaylaw03_OctetReads.l0 : Nat → List (S47) → Int → ByteArray → Int → ByteArray → Int → Option (Bool)
  | 0, _, _, _, _, _, _ => none
  | k + 1, x1, x8, x261000, x261001, x262000, x262001 => if x8 < (x1.length : Int) then (crosswaylaw03_OctetReads.j1 k x1 x8 (decide (x8 < 20)) x261000 x261001 x262000 x262001) else (crosswaylaw03_OctetReads.j1 k x1 x8 false x261000 x261001 x262000 x262001)
def crosswaylaw03_OctetReads.j1 : Nat → List (S47) → Int → Bool → ByteArray → Int → ByteArray → Int → Option (Bool)
  | 0, _, _, _, _, _, _, _ => none
  | k + 1, x1, x8, x39, x261000, x261001, x262000, x262001 => if x39 = true then (if 0 ≤ x8 then (if x8 < (x1.length : Int) then (if (Go.bits .and .i64 ((rd_T47 x1 x8).f0) 7) = 0 then ((crosswayref03_R_Num.f k x262000 x262001 1).bind fun bt269 => ((octet_Reader_U8.f k x261000 x261001).bind fun bt273 => (crosswaylaw03_OctetReads.j2 k x1 x8 (bt273.1 == (wrap64 (bt269.2.2))) bt273.2.1 bt273.2.2 bt269.1 bt269.2.1))) else (if (Go.bits .and .i64 ((rd_T47 x1 x8).f0) 7) = 1 then ((crosswayref03_R_Num.f k x262000 x262001 2).bind fun bt276 => ((octet_Reader_U16.f k x261000 x261001).bind fun bt280 => (crosswaylaw03_OctetReads.j2 k x1 x8 (bt280.1 == (wrap64 (bt276.2.2))) bt280.2.1 bt280.2.2 bt276.1 bt276.2.1))) else (if (Go.bits .and .i64 ((rd_T47 x1 x8).f0) 7) = 2 then ((crosswayref03_R_Num.f k x262000 x262001 4).bind fun bt283 => ((octet_Reader_U32.f k x261000 x261001).bind fun bt287 => (crosswaylaw03_OctetReads.j2 k x1 x8 (bt287.1 == ((bt283.2.2) % 4294967296)) bt287.2.1 bt287.2.2 bt283.1 bt283.2.1))) else (if (Go.bits .and .i64 ((rd_T47 x1 x8).f0) 7) = 3 then ((crosswayref03_R_Num.f k x262000 x262001 8).bind fun bt290 => ((octet_Reader_U64.f k x261000 x261001).bind fun bt294 => (crosswaylaw03_OctetReads.j2 k x1 x8 (bt294.1 == bt290.2.2) bt294.2.1 bt294.2.2 bt290.1 bt290.2.1))) else (if (Go.bits .and .i64 ((rd_T47 x1 x8).f0) 7) = 4 then ((crosswayref03_R_Take.f x262000 x262001 ((rd_T47 x1 x8).f1)).bind fun bt297 => ((octet_Reader_Take.f x261000 x261001 ((rd_T47 x1 x8).f1)).bind fun bt301 => (crosswaylaw03_OctetReads.j2 k x1 x8 (bt301.1.toList == bt297.2.2.toList) bt301.2.1 bt301.2.2 bt297.1 bt297.2.1))) else (if (Go.bits .and .i64 ((rd_T47 x1 x8).f0) 7) = 5 then ((crosswayref03_R_Take.f x262000 x262001 (x262000.size : Int)).bind fun bt304 => ((octet_Reader_Rest.f x261000 x261001).bind fun bt308 => (crosswaylaw03_OctetReads.j2 k x1 x8 (bt308.1.toList == bt304.2.2.toList) bt308.2.1 bt308.2.2 bt304.1 bt304.2.1))) else ((octet_Reader_Fill.f x261000 x261001 (Go.bits .and .i64 ((rd_T47 x1 x8).f1) 255)).bind fun bt311 => ((crosswayref03_R_Fill.f k x262000 x262001 (Go.bits .and .i64 ((rd_T47 x1 x8).f1) 255)).bind fun bt313 => (crosswaylaw03_OctetReads.j2 k x1 x8 true bt311.1 bt311.2 bt313.1 bt313.2))))))))) else (none)) else (none)) else ((crosswaylaw03_awake.f k).bind fun t262 => (if t262 = true then ((octet_Reader_End.f k x261000 x261001).bind fun bt263 => ((crosswayref03_R_End.f x262000 x262001).bind fun t266 => (some (bt263.1 == t266)))) else (some false)))
def crosswaylaw03_OctetReads.j2 : Nat → List (S47) → Int → Bool → ByteArray → Int → ByteArray → Int → Option (Bool)
  | 0, _, _, _, _, _, _, _ => none
  | k + 1, x1, x8, x9, x261000, x261001, x262000, x262001 => if x9 = true then ((octet_Reader_Err.f x261000 x261001).bind fun bt315 => (if bt315.1 = x262001 then ((octet_Reader_Left.f bt315.2.1 bt315.2.2).bind fun bt318 => (if bt318.1 = (x262000.size : Int) then (crosswaylaw03_OctetReads.l0 k x1 (wrap64 (x8 + 1)) bt318.2.1 bt318.2.2 x262000 x262001) else (some false))) else (some false))) else (some false)
end
def crosswaylaw03_OctetReads.f (k : Nat) (a0 : ByteArray) (l1 : List (S47)) : Option (Bool) := if 0 ≤ (mn (a0.size : Int) 200) then (if (mn (a0.size : Int) 200) ≤ (a0.size : Int) then ((octet_New.f (a0.extract 0 ((mn (a0.size : Int) 200) : Int).toNat)).bind fun bt258 => (crosswaylaw03_OctetReads.l0 k l1 0 bt258.1 bt258.2 (a0.extract 0 ((mn (a0.size : Int) 200) : Int).toNat) 0)) else (none)) else (none)
theorem crosswaylaw03_OctetReads.mono_l : ∀ k, (∀ y0 y1 y2 y3 y4 y5, LeO (crosswaylaw03_OctetReads.l0 k y0 y1 y2 y3 y4 y5) (crosswaylaw03_OctetReads.l0 (k + 1) y0 y1 y2 y3 y4 y5)) ∧ (∀ y0 y1 y2 y3 y4 y5 y6, LeO (crosswaylaw03_OctetReads.j1 k y0 y1 y2 y3 y4 y5 y6) (crosswaylaw03_OctetReads.j1 (k + 1) y0 y1 y2 y3 y4 y5 y6)) ∧ (∀ y0 y1 y2 y3 y4 y5 y6, LeO (crosswaylaw03_OctetReads.j2 k y0 y1 y2 y3 y4 y5 y6) (crosswaylaw03_OctetReads.j2 (k + 1) y0 y1 y2 y3 y4 y5 y6))
  | 0 => ⟨fun _ _ _ _ _ _ r h => by simp [crosswaylaw03_OctetReads.l0] at h, fun _ _ _ _ _ _ _ r h => by simp [crosswaylaw03_OctetReads.j1] at h, fun _ _ _ _ _ _ _ r h => by simp [crosswaylaw03_OctetReads.j2] at h⟩
  | k + 1 => by
    obtain ⟨ih0, ih1, ih2⟩ := crosswaylaw03_OctetReads.mono_l k
    refine ⟨?_, ?_, ?_⟩
    · intro y0 y1 y2 y3 y4 y5
      unfold crosswaylaw03_OctetReads.l0
      repeat' first
      | (with_reducible exact ih0 _ _ _ _ _ _)
      | (with_reducible exact ih1 _ _ _ _ _ _ _)
      | (with_reducible exact ih2 _ _ _ _ _ _ _)
      | (with_reducible exact crosswaylaw03_awake.mono _)
      | (with_reducible exact crosswayref03_R_Fill.mono _ _ _ _)
      | (with_reducible exact crosswayref03_R_Num.mono _ _ _ _)
      | (with_reducible exact octet_Reader_End.mono _ _ _)
      | (with_reducible exact octet_Reader_U16.mono _ _ _)
      | (with_reducible exact octet_Reader_U32.mono _ _ _)
      | (with_reducible exact octet_Reader_U64.mono _ _ _)
      | (with_reducible exact octet_Reader_U8.mono _ _ _)
      | (with_reducible exact LeO.refl _)
      | (with_reducible exact LeO.none _)
      | (with_reducible refine LeO.ite ?_ ?_)
      | (with_reducible refine LeO.bind ?_ (fun _ => ?_))
      | exact ih0 _ _ _ _ _ _
      | exact ih1 _ _ _ _ _ _ _
      | exact ih2 _ _ _ _ _ _ _
      | exact crosswaylaw03_awake.mono _
      | exact crosswayref03_R_Fill.mono _ _ _ _
      | exact crosswayref03_R_Num.mono _ _ _ _
      | exact octet_Reader_End.mono _ _ _
      | exact octet_Reader_U16.mono _ _ _
      | exact octet_Reader_U32.mono _ _ _
      | exact octet_Reader_U64.mono _ _ _
      | exact octet_Reader_U8.mono _ _ _
      | exact LeO.none _
      | refine LeO.ite ?_ ?_
      | refine LeO.bind ?_ (fun _ => ?_)
    · intro y0 y1 y2 y3 y4 y5 y6
      unfold crosswaylaw03_OctetReads.j1
      repeat' first
      | (with_reducible exact ih0 _ _ _ _ _ _)
      | (with_reducible exact ih1 _ _ _ _ _ _ _)
      | (with_reducible exact ih2 _ _ _ _ _ _ _)
      | (with_reducible exact crosswaylaw03_awake.mono _)
      | (with_reducible exact crosswayref03_R_Fill.mono _ _ _ _)
      | (with_reducible exact crosswayref03_R_Num.mono _ _ _ _)
      | (with_reducible exact octet_Reader_End.mono _ _ _)
      | (with_reducible exact octet_Reader_U16.mono _ _ _)
      | (with_reducible exact octet_Reader_U32.mono _ _ _)
      | (with_reducible exact octet_Reader_U64.mono _ _ _)
      | (with_reducible exact octet_Reader_U8.mono _ _ _)
      | (with_reducible exact LeO.refl _)
      | (with_reducible exact LeO.none _)
      | (with_reducible refine LeO.ite ?_ ?_)
      | (with_reducible refine LeO.bind ?_ (fun _ => ?_))
      | exact ih0 _ _ _ _ _ _
      | exact ih1 _ _ _ _ _ _ _
      | exact ih2 _ _ _ _ _ _ _
      | exact crosswaylaw03_awake.mono _
      | exact crosswayref03_R_Fill.mono _ _ _ _
      | exact crosswayref03_R_Num.mono _ _ _ _
      | exact octet_Reader_End.mono _ _ _
      | exact octet_Reader_U16.mono _ _ _
      | exact octet_Reader_U32.mono _ _ _
      | exact octet_Reader_U64.mono _ _ _
      | exact octet_Reader_U8.mono _ _ _
      | exact LeO.none _
      | refine LeO.ite ?_ ?_
      | refine LeO.bind ?_ (fun _ => ?_)
    · intro y0 y1 y2 y3 y4 y5 y6
      unfold crosswaylaw03_OctetReads.j2
      repeat' first
      | (with_reducible exact ih0 _ _ _ _ _ _)
      | (with_reducible exact ih1 _ _ _ _ _ _ _)
      | (with_reducible exact ih2 _ _ _ _ _ _ _)
      | (with_reducible exact crosswaylaw03_awake.mono _)
      | (with_reducible exact crosswayref03_R_Fill.mono _ _ _ _)
      | (with_reducible exact crosswayref03_R_Num.mono _ _ _ _)
      | (with_reducible exact octet_Reader_End.mono _ _ _)
      | (with_reducible exact octet_Reader_U16.mono _ _ _)
      | (with_reducible exact octet_Reader_U32.mono _ _ _)
      | (with_reducible exact octet_Reader_U64.mono _ _ _)
      | (with_reducible exact octet_Reader_U8.mono _ _ _)
      | (with_reducible exact LeO.refl _)
      | (with_reducible exact LeO.none _)
      | (with_reducible refine LeO.ite ?_ ?_)
      | (with_reducible refine LeO.bind ?_ (fun _ => ?_))
      | exact ih0 _ _ _ _ _ _
      | exact ih1 _ _ _ _ _ _ _
      | exact ih2 _ _ _ _ _ _ _
      | exact crosswaylaw03_awake.mono _
      | exact crosswayref03_R_Fill.mono _ _ _ _
      | exact crosswayref03_R_Num.mono _ _ _ _
      | exact octet_Reader_End.mono _ _ _
      | exact octet_Reader_U16.mono _ _ _
      | exact octet_Reader_U32.mono _ _ _
      | exact octet_Reader_U64.mono _ _ _
      | exact octet_Reader_U8.mono _ _ _
      | exact LeO.none _
      | refine LeO.ite ?_ ?_
      | refine LeO.bind ?_ (fun _ => ?_)
theorem crosswaylaw03_OctetReads.mono : ∀ a0 a1 k, LeO (crosswaylaw03_OctetReads.f k a0 a1) (crosswaylaw03_OctetReads.f (k + 1) a0 a1) := by
  intro a0 a1 k
  obtain ⟨ih0, ih1, ih2⟩ := crosswaylaw03_OctetReads.mono_l k
  unfold crosswaylaw03_OctetReads.f
  repeat' first
      | (with_reducible exact ih0 _ _ _ _ _ _)
      | (with_reducible exact ih1 _ _ _ _ _ _ _)
      | (with_reducible exact ih2 _ _ _ _ _ _ _)
      | (with_reducible exact crosswaylaw03_awake.mono _)
      | (with_reducible exact crosswayref03_R_Fill.mono _ _ _ _)
      | (with_reducible exact crosswayref03_R_Num.mono _ _ _ _)
      | (with_reducible exact octet_Reader_End.mono _ _ _)
      | (with_reducible exact octet_Reader_U16.mono _ _ _)
      | (with_reducible exact octet_Reader_U32.mono _ _ _)
      | (with_reducible exact octet_Reader_U64.mono _ _ _)
      | (with_reducible exact octet_Reader_U8.mono _ _ _)
      | (with_reducible exact LeO.refl _)
      | (with_reducible exact LeO.none _)
      | (with_reducible refine LeO.ite ?_ ?_)
      | (with_reducible refine LeO.bind ?_ (fun _ => ?_))
      | exact ih0 _ _ _ _ _ _
      | exact ih1 _ _ _ _ _ _ _
      | exact ih2 _ _ _ _ _ _ _
      | exact crosswaylaw03_awake.mono _
      | exact crosswayref03_R_Fill.mono _ _ _ _
      | exact crosswayref03_R_Num.mono _ _ _ _
      | exact octet_Reader_End.mono _ _ _
      | exact octet_Reader_U16.mono _ _ _
      | exact octet_Reader_U32.mono _ _ _
      | exact octet_Reader_U64.mono _ _ _
      | exact octet_Reader_U8.mono _ _ _
      | exact LeO.none _
      | refine LeO.ite ?_ ?_
      | refine LeO.bind ?_ (fun _ => ?_)
def crosswaylaw03_OctetReads.T13 : Bool × List (List Nat × List Nat) := (true, [([], []), ([], []), ([1], [1]), ([], []), ([3], [3]), ([2, 4], [2, 4]), ([0, 2, 0], [0]), ([5, 6, 0, 1, 2, 3, 4, 5, 6], [5])])
def crosswaylaw03_OctetReads.B13 : List Nat := [0, 0, 2, 0, 8, 30, 7, 127]
theorem crosswaylaw03_OctetReads.tab13 : rtab .any (opsOf Try.f5 13) = crosswaylaw03_OctetReads.T13 := by kernel_rfl
theorem crosswaylaw03_OctetReads.bits13 : waitsOk crosswaylaw03_OctetReads.T13.2 crosswaylaw03_OctetReads.B13 = true := by kernel_rfl
def crosswaylaw03_OctetReads.T16 : Bool × List (List Nat × List Nat) := (true, [([], []), ([], []), ([1], [1]), ([], []), ([3], [3]), ([2, 4], [2, 4]), ([0, 2, 0], [0]), ([5, 6, 0, 1, 2, 3, 4, 5, 6], [5])])
def crosswaylaw03_OctetReads.B16 : List Nat := [0, 0, 2, 0, 8, 30, 7, 127]
theorem crosswaylaw03_OctetReads.tab16 : rtab .any (opsOf Try.f5 16) = crosswaylaw03_OctetReads.T16 := by kernel_rfl
theorem crosswaylaw03_OctetReads.bits16 : waitsOk crosswaylaw03_OctetReads.T16.2 crosswaylaw03_OctetReads.B16 = true := by kernel_rfl
def crosswaylaw03_OctetReads.T19 : Bool × List (List Nat × List Nat) := (true, [([], []), ([], []), ([1], [1]), ([], []), ([3], [3]), ([2, 4], [2, 4]), ([0, 2, 0], [0]), ([5, 6, 0, 1, 2, 3, 4, 5, 6], [5])])
def crosswaylaw03_OctetReads.B19 : List Nat := [0, 0, 2, 0, 8, 30, 7, 127]
theorem crosswaylaw03_OctetReads.tab19 : rtab .any (opsOf Try.f5 19) = crosswaylaw03_OctetReads.T19 := by kernel_rfl
theorem crosswaylaw03_OctetReads.bits19 : waitsOk crosswaylaw03_OctetReads.T19.2 crosswaylaw03_OctetReads.B19 = true := by kernel_rfl
def crosswaylaw03_OctetReads.T25 : Bool × List (List Nat × List Nat) := (true, [([], []), ([], []), ([], []), ([2], [2]), ([1, 3], [1, 3]), ([], []), ([4, 5], [4, 5]), ([0, 4, 0], [0]), ([6, 7, 0, 1, 2, 3, 4, 5, 6, 7], [6])])
def crosswaylaw03_OctetReads.B25 : List Nat := [0, 0, 0, 4, 14, 0, 62, 31, 255]
theorem crosswaylaw03_OctetReads.tab25 : rtab .any (opsOf Try.f5 25) = crosswaylaw03_OctetReads.T25 := by kernel_rfl
theorem crosswaylaw03_OctetReads.bits25 : waitsOk crosswaylaw03_OctetReads.T25.2 crosswaylaw03_OctetReads.B25 = true := by kernel_rfl
def crosswaylaw03_OctetReads.T29 : Bool × List (List Nat × List Nat) := (true, [([], []), ([0], [0]), ([1], [1]), ([2], [2]), ([3, 2, 2], [2, 3]), ([2], [2]), ([5, 2], [2, 5]), ([4, 6, 2], [2, 4, 6]), ([2, 7], [2, 7]), ([8, 4], [8]), ([9], [9]), ([10, 9, 9], [9, 10]), ([9], [9]), ([12, 9], [9, 12]), ([13, 9], [9, 13]), ([11, 14, 9], [9, 11, 14]), ([9, 15], [9, 15])])
def crosswaylaw03_OctetReads.B29 : List Nat := [0, 1, 3, 7, 15, 7, 39, 127, 255, 511, 1023, 2047, 1023, 5119, 13311, 32767, 65535]
theorem crosswaylaw03_OctetReads.tab29 : rtab .any (opsOf Try.f5 29) = crosswaylaw03_OctetReads.T29 := by kernel_rfl
theorem crosswaylaw03_OctetReads.bits29 : waitsOk crosswaylaw03_OctetReads.T29.2 crosswaylaw03_OctetReads.B29 = true := by kernel_rfl
def crosswaylaw03_OctetReads.T31 : Bool × List (List Nat × List Nat) := (true, [([], []), ([0, 0], [0]), ([1], [1]), ([2, 1, 1], [1, 2]), ([1], [1]), ([4, 3, 1], [1, 4]), ([3, 5, 1], [1, 3, 5]), ([1, 6], [1, 6]), ([7, 5, 0, 1, 2, 3, 4, 5, 6, 7], [7])])
def crosswaylaw03_OctetReads.B31 : List Nat := [0, 1, 3, 7, 3, 31, 63, 127, 255]
theorem crosswaylaw03_OctetReads.tab31 : rtab .any (opsOf Try.f5 31) = crosswaylaw03_OctetReads.T31 := by kernel_rfl
theorem crosswaylaw03_OctetReads.bits31 : waitsOk crosswaylaw03_OctetReads.T31.2 crosswaylaw03_OctetReads.B31 = true := by kernel_rfl
set_option maxHeartbeats 8000000 in
set_option maxRecDepth 100000 in
theorem crosswaylaw03_OctetReads.calls (k : Nat) (a0 : ByteArray) (A1 : Option Addr) (c1 : Nat) (l1 : List (S47)) (r : Bool) (w : World) (hr1 : Kd.C k47 w A1 l1.length l1) (hc1 : l1.length ≤ c1) (h : crosswaylaw03_OctetReads.f k a0 l1 = some r) :
    Calls Try.prog 5 #[.string a0, .slice A1 l1.length c1] w fun e w' => e = .returned (.bool r) ∧ Below w.heap.size w w' := by
  have hu45 := Try.underlying45
  have hu47 := Try.underlying47
  have HR1 := Aside0.mk hr1
  have HC1 := Aside0.mk hc1
  clear hr1 hc1
  have HB := Aside0.mk (Below.refl w.heap.size w)
  have H : (if 0 ≤ (mn (a0.size : Int) 200) then (if (mn (a0.size : Int) 200) ≤ (a0.size : Int) then ((octet_New.f (a0.extract 0 ((mn (a0.size : Int) 200) : Int).toNat)).bind fun bt258 => (crosswaylaw03_OctetReads.l0 k l1 0 bt258.1 bt258.2 (a0.extract 0 ((mn (a0.size : Int) 200) : Int).toNat) 0)) else (none)) else (none)) = some r := h
  clear h
  obtain ⟨ji3, hji3⟩ : ∃ j_ : Int, (mn (a0.size : Int) 200) = j_ := ⟨_, rfl⟩
  replace H : (if 0 ≤ (ji3) then (if (ji3) ≤ (a0.size : Int) then ((octet_New.f (a0.extract 0 ((ji3) : Int).toNat)).bind fun bt258 => (crosswaylaw03_OctetReads.l0 k l1 0 bt258.1 bt258.2 (a0.extract 0 ((ji3) : Int).toNat) 0)) else (none)) else (none)) = some r := by first | (rw [hji3] at H; exact H) | (simp only [hji3] at H ⊢; exact H)
  (try (have hji3h : ji3 ≤ 200 := by (rw [← hji3]; unfold mn; (repeat' split) <;> omega)))
  (try (have hji3g : ji3 ≤ 64 := by omega))
  (try (have hji3l : 0 ≤ ji3 := by (rw [← hji3]; unfold mn; (repeat' split) <;> omega)))
  (try (have hji3m : 0 ≤ ji3 := by omega))
  have hji3_ : (if 200 < (a0.size : Int) then 200 else (a0.size : Int)) = ji3 := hji3
  by_cases c4 : 0 ≤ (ji3)
  · rw [if_pos c4] at H
    have c4b0 := eq_true c4
    have c4b1 : decide (0 ≤ (ji3)) = true := decide_eq_true c4
    clear c4
    by_cases c5 : (ji3) ≤ (a0.size : Int)
    · rw [if_pos c5] at H
      have c5b0 := eq_true c5
      have c5b1 : decide ((ji3) ≤ (a0.size : Int)) = true := decide_eq_true c5
      clear c5
      obtain ⟨st6, hst6⟩ : ∃ j_ : ByteArray, (a0.extract 0 ((ji3) : Int).toNat) = j_ := ⟨_, rfl⟩
      replace H : ((octet_New.f st6).bind fun bt258 => (crosswaylaw03_OctetReads.l0 k l1 0 bt258.1 bt258.2 st6 0)) = some r := by first | (rw [hst6] at H; exact H) | (simp only [hst6] at H ⊢; exact H) | exact H
      replace H := Option.bind_eq_some_iff.mp H
      obtain ⟨⟨t258, t259⟩, A70, H⟩ := H
      replace H : (crosswaylaw03_OctetReads.l0 k l1 0 t258 t259 st6 0) = some r := H
      have A7 := Aside0.mk A70
      clear A70
      have H' := Aside0.mk H
      clear H
      go_enter Try.func5, Try.ntmps5
      go_wp2_with (first | ((with_reducible refine gate_callee (f := 30) rfl ?_); refine goesL_ (some 29) rfl rfl Try.func30 (by kernel_rfl) rfl #[.string st6] rfl (by (try simp only [List.map_toArray, List.map_cons, List.map_nil]); first | done | rfl | (simp only [List.length_drop, List.length_take]; rfl)) ?_; (with_reducible refine (octet_New.calls st6 t258 t259 w _ ?side1 A7.out).mono ?_); (case side1 => repeat (first | (with_reducible first | exact HB.out | apply below_alloc | apply pw_below_drewN | apply below_drew1) | exact HB.out)); rintro e w8 ⟨g260, rfl, hi, hb, hb2⟩; refine ⟨_, rfl, ?_⟩; have n0_ := Aside0.mk (hb); have n1_ := Aside0.mk (hi); clear HB; have HB := n0_; have HI260 := n1_; clear n0_ n1_; (try clear hb); (try clear hb2); (try clear hk); (try clear hi)) | ((with_reducible refine gate_dst (N := 7) rfl ?_); (try (refine gate_guard (by rfl) ?_; dsimp only)); refine box_event ?hg (N := 7) ?hd (cs := #[.string (⟨#[]⟩ : ByteArray), .int .i64 0]) (t := 45) ?hr ?_; (case hd => rfl); (case hg => rfl); (case hr => first | (go_simp; done) | (go_simp; rfl)); intro gb261 hg w9 hbox hb; have n0_ := Aside0.mk (IsS113.below (by repeat (first | (with_reducible first | exact HI260.out | apply IsS113.alloc | apply IsS113.drewN | apply IsS113.drew | apply IsS113.set_0 | apply IsS113.set_1) | exact HI260.out)) hb); have n1_ := Aside0.mk (below_step (by repeat (first | (with_reducible first | exact HB.out | apply below_alloc | apply pw_below_drewN | apply below_drew1 | refine below_set ?_ (IsS113.ge HI260.out)) | exact HB.out)) hb); have n2_ := Aside0.mk (hbox); have n3_ := Aside0.mk ((by rw [hg]; exact (below_size (by repeat (first | (with_reducible first | exact HB.out | apply below_alloc | apply pw_below_drewN | apply below_drew1 | refine below_set ?_ (IsS113.ge HI260.out)) | exact HB.out))) : w.heap.size ≤ gb261)); have n4_ := Aside0.mk ((by rw [hg]; exact (below_size (by repeat (first | (with_reducible first | exact HB.out | apply below_alloc | apply pw_below_drewN | apply below_drew1 | refine below_set ?_ (IsS113.ge HI260.out)) | exact HB.out))) : w.heap.size ≤ gb261)); have n5_ := Aside0.mk ((by rw [hg]; exact Nat.ne_of_lt (IsS113.lt (show IsS113 w _ g260 t258 t259 from by repeat (first | (with_reducible first | exact HI260.out | apply IsS113.alloc | apply IsS113.drewN | apply IsS113.drew | apply IsS113.set_0 | apply IsS113.set_1) | exact HI260.out))) : g260 ≠ gb261)); have n6_ := Aside0.mk ((by rw [hg]; exact Nat.ne_of_gt (IsS113.lt (show IsS113 w _ g260 t258 t259 from by repeat (first | (with_reducible first | exact HI260.out | apply IsS113.alloc | apply IsS113.drewN | apply IsS113.drew | apply IsS113.set_0 | apply IsS113.set_1) | exact HI260.out))) : gb261 ≠ g260)); clear HI260; clear HB; have HI260 := n0_; have HB := n1_; have BK261 := n2_; have GW261 := n3_; have GE261 := n4_; have NB260_261 := n5_; have NB261_260 := n6_; clear n0_ n1_ n2_ n3_ n4_ n5_ n6_; clear hb hbox hg; have hnb10 := NB261_260.out; have hnc10 := NB260_261.out; have hcz11_0 : w9.cell? ⟨gb261, 0, none⟩ = some (.string (⟨#[]⟩ : ByteArray)) := (blk_cell BK261.out 0).trans rfl; have hcz11_1 : w9.cell? ⟨gb261, 1, none⟩ = some (.int .i64 0) := (blk_cell BK261.out 1).trans rfl; have hfz11_0 := blk_frozen BK261.out 0; have hfz11_1 := blk_frozen BK261.out 1))
      go_loopg [8] k (fun kq v8 w' => ∃ (x8_1 : Int) (x261000_1 : ByteArray) (x261001_1 : Int) (x262000_1 : ByteArray) (x262001_1 : Int), v8 = .int .i64 x8_1 ∧ Aside0 (crosswaylaw03_OctetReads.l0 kq l1 x8_1 x261000_1 x261001_1 x262000_1 x262001_1 = some r) ∧ Aside0 (kq ≤ k) ∧ Aside0 (w'.heap[gb261]? = some (.cells #[.string x262000_1, .int .i64 x262001_1] 45 (0, 0))) ∧ Aside0 (IsS113 w w' g260 x261000_1 x261001_1) ∧ Aside0 (Below w.heap.size w w'))
      case atStart => exact ⟨(0), (t258), (t259), (st6), (0), (by first | rfl | (simp; done) | (simp [*]; done)), H', ⟨Nat.le_refl _⟩, ⟨by (with_reducible repeat (first | refine blk_drewN ?_ _ | refine blk_drew ?_ | refine blk_alloc ?_ _)); refine blk_put (cs := #[.string st6, .int .i64 0]) ?_ 1 _ rfl; (with_reducible repeat (first | refine blk_drewN ?_ _ | refine blk_drew ?_ | refine blk_alloc ?_ _)); refine blk_put (cs := #[.string (⟨#[]⟩ : ByteArray), .int .i64 0]) ?_ 0 _ rfl; (with_reducible repeat (first | refine blk_drewN ?_ _ | refine blk_drew ?_ | refine blk_alloc ?_ _)); exact BK261.out⟩, ⟨by repeat (first | (with_reducible first | exact HI260.out | apply IsS113.alloc | apply IsS113.drewN | apply IsS113.drew | apply IsS113.set_0 | apply IsS113.set_1 | refine IsS113.far ?_ NB260_261.out _) | exact HI260.out)⟩, ⟨by repeat (first | (with_reducible first | exact HB.out | apply below_alloc | apply pw_below_drewN | apply below_drew1 | refine below_set ?_ (IsS113.ge HI260.out) | refine below_set ?_ GE261.out) | exact HB.out)⟩⟩
      case round =>
        clear H'
        try clear c1
        try clear p2
        try clear c3
        try clear c4
        try clear c4b0
        try clear c4b1
        try clear c5
        try clear c5b0
        try clear c5b1
        try clear c10
        try clear hcz11_0
        try clear hcz11_1
        try clear hfz11_0
        try clear hfz11_1
        obtain ⟨x8_1, x261000_1, x261001_1, x262000_1, x262001_1, rfl, HA, HK1, BK261, HI260, HB⟩ := hrel
        cases gk with
        | zero => exact absurd HA.out (by simp [crosswaylaw03_OctetReads.l0])
        | succ k1 =>
          have H := HA.out
          clear HA
          simp only [crosswaylaw03_OctetReads.l0] at H
          have HC12 := Aside0.mk H
          clear H
          go_upto_region 4 with (fail)
          go_cut [39] (fun v39 wc => ∃ (kq : Nat) (x39_11 : Bool), v39 = .bool x39_11 ∧ Aside0 (crosswaylaw03_OctetReads.j1 kq l1 x8_1 x39_11 x261000_1 x261001_1 x262000_1 x262001_1 = some r) ∧ Aside0 (kq ≤ k1) ∧ Aside0 (wc.heap[gb261]? = some (.cells #[.string x262000_1, .int .i64 x262001_1] 45 (0, 0))) ∧ Aside0 (IsS113 w wc g260 x261000_1 x261001_1) ∧ Aside0 (Below w.heap.size w wc))
          case first =>
            have H := HC12.out
            clear HC12
            by_cases c13 : x8_1 < (l1.length : Int)
            · rw [if_pos c13] at H
              have c13b0 : decide (x8_1 < (l1.length : Int)) = true := decide_eq_true c13
              clear c13
              (first | rw [c13b0] | (simp only [i64_w, i32_w]; rw [c13b0]) | skip)
              have H' := Aside0.mk H
              clear H
              go_wp2
              go_meet
              case rel => exact ⟨_, (decide (x8_1 < 20)), (by first | rfl | (simp; done) | (simp [*]; done)), H', ⟨by have := HK1.out; first | omega | exact Nat.le_refl _⟩, ⟨by (with_reducible repeat (first | refine blk_drewN ?_ _ | refine blk_drew ?_ | refine blk_alloc ?_ _)); exact BK261.out⟩, ⟨by repeat (first | (with_reducible first | exact HI260.out | apply IsS113.alloc | apply IsS113.drewN | apply IsS113.drew | apply IsS113.set_0 | apply IsS113.set_1 | refine IsS113.far ?_ NB260_261.out _) | exact HI260.out)⟩, ⟨by repeat (first | (with_reducible first | exact HB.out | apply below_alloc | apply pw_below_drewN | apply below_drew1 | refine below_set ?_ (IsS113.ge HI260.out) | refine below_set ?_ GE261.out) | exact HB.out)⟩⟩
            · rw [if_neg c13] at H
              have c13b0 : decide (x8_1 < (l1.length : Int)) = false := decide_eq_false c13
              clear c13
              (first | rw [c13b0] | (simp only [i64_w, i32_w]; rw [c13b0]) | skip)
              have H' := Aside0.mk H
              clear H
              go_wp2
              go_meet
              case rel => exact ⟨_, (false), (by first | rfl | (simp; done) | (simp [*]; done)), H', ⟨by have := HK1.out; first | omega | exact Nat.le_refl _⟩, ⟨by (with_reducible repeat (first | refine blk_drewN ?_ _ | refine blk_drew ?_ | refine blk_alloc ?_ _)); exact BK261.out⟩, ⟨by repeat (first | (with_reducible first | exact HI260.out | apply IsS113.alloc | apply IsS113.drewN | apply IsS113.drew | apply IsS113.set_0 | apply IsS113.set_1 | refine IsS113.far ?_ NB260_261.out _) | exact HI260.out)⟩, ⟨by repeat (first | (with_reducible first | exact HB.out | apply below_alloc | apply pw_below_drewN | apply below_drew1 | refine below_set ?_ (IsS113.ge HI260.out) | refine below_set ?_ GE261.out) | exact HB.out)⟩⟩
          case rest =>
            clear HC12
            try clear c1
            try clear p2
            try clear c3
            try clear c4
            try clear c4b0
            try clear c4b1
            try clear c5
            try clear c5b0
            try clear c5b1
            try clear c10
            try clear c13
            try clear c13b0
            try clear hcz11_0
            try clear hcz11_1
            try clear hfz11_0
            try clear hfz11_1
            try clear p2
            obtain ⟨kq, x39_11, rfl, HA, HJ11, BK261, HI260, HB⟩ := hcut
            cases kq with
            | zero => exact absurd HA.out (by simp [crosswaylaw03_OctetReads.j1])
            | succ kj11 =>
              have H := HA.out
              clear HA
              simp only [crosswaylaw03_OctetReads.j1] at H
              by_cases c14 : x39_11 = true
              · subst c14
                have H1 : (if 0 ≤ x8_1 then (if x8_1 < (l1.length : Int) then (if (Go.bits .and .i64 ((rd_T47 l1 x8_1).f0) 7) = 0 then ((crosswayref03_R_Num.f kj11 x262000_1 x262001_1 1).bind fun bt269 => ((octet_Reader_U8.f kj11 x261000_1 x261001_1).bind fun bt273 => (crosswaylaw03_OctetReads.j2 kj11 l1 x8_1 (bt273.1 == (wrap64 (bt269.2.2))) bt273.2.1 bt273.2.2 bt269.1 bt269.2.1))) else (if (Go.bits .and .i64 ((rd_T47 l1 x8_1).f0) 7) = 1 then ((crosswayref03_R_Num.f kj11 x262000_1 x262001_1 2).bind fun bt276 => ((octet_Reader_U16.f kj11 x261000_1 x261001_1).bind fun bt280 => (crosswaylaw03_OctetReads.j2 kj11 l1 x8_1 (bt280.1 == (wrap64 (bt276.2.2))) bt280.2.1 bt280.2.2 bt276.1 bt276.2.1))) else (if (Go.bits .and .i64 ((rd_T47 l1 x8_1).f0) 7) = 2 then ((crosswayref03_R_Num.f kj11 x262000_1 x262001_1 4).bind fun bt283 => ((octet_Reader_U32.f kj11 x261000_1 x261001_1).bind fun bt287 => (crosswaylaw03_OctetReads.j2 kj11 l1 x8_1 (bt287.1 == ((bt283.2.2) % 4294967296)) bt287.2.1 bt287.2.2 bt283.1 bt283.2.1))) else (if (Go.bits .and .i64 ((rd_T47 l1 x8_1).f0) 7) = 3 then ((crosswayref03_R_Num.f kj11 x262000_1 x262001_1 8).bind fun bt290 => ((octet_Reader_U64.f kj11 x261000_1 x261001_1).bind fun bt294 => (crosswaylaw03_OctetReads.j2 kj11 l1 x8_1 (bt294.1 == bt290.2.2) bt294.2.1 bt294.2.2 bt290.1 bt290.2.1))) else (if (Go.bits .and .i64 ((rd_T47 l1 x8_1).f0) 7) = 4 then ((crosswayref03_R_Take.f x262000_1 x262001_1 ((rd_T47 l1 x8_1).f1)).bind fun bt297 => ((octet_Reader_Take.f x261000_1 x261001_1 ((rd_T47 l1 x8_1).f1)).bind fun bt301 => (crosswaylaw03_OctetReads.j2 kj11 l1 x8_1 (bt301.1.toList == bt297.2.2.toList) bt301.2.1 bt301.2.2 bt297.1 bt297.2.1))) else (if (Go.bits .and .i64 ((rd_T47 l1 x8_1).f0) 7) = 5 then ((crosswayref03_R_Take.f x262000_1 x262001_1 (x262000_1.size : Int)).bind fun bt304 => ((octet_Reader_Rest.f x261000_1 x261001_1).bind fun bt308 => (crosswaylaw03_OctetReads.j2 kj11 l1 x8_1 (bt308.1.toList == bt304.2.2.toList) bt308.2.1 bt308.2.2 bt304.1 bt304.2.1))) else ((octet_Reader_Fill.f x261000_1 x261001_1 (Go.bits .and .i64 ((rd_T47 l1 x8_1).f1) 255)).bind fun bt311 => ((crosswayref03_R_Fill.f kj11 x262000_1 x262001_1 (Go.bits .and .i64 ((rd_T47 l1 x8_1).f1) 255)).bind fun bt313 => (crosswaylaw03_OctetReads.j2 kj11 l1 x8_1 true bt311.1 bt311.2 bt313.1 bt313.2))))))))) else (none)) else (none)) = some r := by rw [if_pos rfl] at H; exact H
                clear H
                have H := H1
                clear H1
                by_cases c15 : 0 ≤ x8_1
                · rw [if_pos c15] at H
                  have c15b0 : decide (0 ≤ x8_1) = true := decide_eq_true c15
                  clear c15
                  by_cases c16 : x8_1 < (l1.length : Int)
                  · rw [if_pos c16] at H
                    have c16b0 : decide (x8_1 < (l1.length : Int)) = true := decide_eq_true c16
                    clear c16
                    have HC17 := Aside0.mk H
                    clear H
                    have p267 : 0 ≤ (x8_1 : Int) := of_decide_eq_true (by first | (with_reducible assumption) | assumption)
                    have q267 : x8_1 < (l1.length : Int) := of_decide_eq_true (by first | (with_reducible assumption) | assumption)
                    obtain ⟨ad267, e267, hx267_0, hx267_1⟩ := at_T47 HR1.out x8_1 p267 q267
                    cases e267
                    replace hx267_0 := (HB.out.cell (World.block_lt_of_cell? w _ hx267_0)).trans hx267_0
                    replace hx267_1 := (HB.out.cell (World.block_lt_of_cell? w _ hx267_1)).trans hx267_1
                    replace p267 := eq_true p267
                    replace q267 := eq_true q267
                    go_upto_block 2 with (first | ((with_reducible refine gate_dst (N := 10) rfl ?_); (try (refine gate_guard (by rfl) ?_; dsimp only)); refine box_event ?hg (N := 10) ?hd (cs := #[.int .i64 0, .int .i64 0]) (t := 47) ?hr ?_; (case hd => rfl); (case hg => rfl); (case hr => first | (go_simp; done) | (go_simp; rfl)); intro gb268 hg w18 hbox hb; have n0_ := Aside0.mk (blk_below (g := gb261) (o := .cells #[.string x262000_1, .int .i64 x262001_1] 45 (0, 0)) (by (with_reducible repeat (first | refine blk_drewN ?_ _ | refine blk_drew ?_ | refine blk_alloc ?_ _)); exact BK261.out) hb); have n1_ := Aside0.mk (IsS113.below (by repeat (first | (with_reducible first | exact HI260.out | apply IsS113.alloc | apply IsS113.drewN | apply IsS113.drew | apply IsS113.set_0 | apply IsS113.set_1 | refine IsS113.far ?_ NB260_261.out _) | exact HI260.out)) hb); have n2_ := Aside0.mk (below_step (by repeat (first | (with_reducible first | exact HB.out | apply below_alloc | apply pw_below_drewN | apply below_drew1 | refine below_set ?_ (IsS113.ge HI260.out) | refine below_set ?_ GE261.out) | exact HB.out)) hb); have n3_ := Aside0.mk (hbox); have n4_ := Aside0.mk ((by rw [hg]; exact (below_size (by repeat (first | (with_reducible first | exact HB.out | apply below_alloc | apply pw_below_drewN | apply below_drew1 | refine below_set ?_ (IsS113.ge HI260.out) | refine below_set ?_ GE261.out) | exact HB.out))) : w.heap.size ≤ gb268)); have n5_ := Aside0.mk ((by rw [hg]; exact (below_size (by repeat (first | (with_reducible first | exact HB.out | apply below_alloc | apply pw_below_drewN | apply below_drew1 | refine below_set ?_ (IsS113.ge HI260.out) | refine below_set ?_ GE261.out) | exact HB.out))) : w.heap.size ≤ gb268)); have n6_ := Aside0.mk ((by rw [hg]; exact Nat.ne_of_lt (blk_lt (g := gb261) (o := .cells #[.string x262000_1, .int .i64 x262001_1] 45 (0, 0)) (by (with_reducible repeat (first | refine blk_drewN ?_ _ | refine blk_drew ?_ | refine blk_alloc ?_ _)); exact BK261.out)) : gb261 ≠ gb268)); have n7_ := Aside0.mk ((by rw [hg]; exact Nat.ne_of_gt (blk_lt (g := gb261) (o := .cells #[.string x262000_1, .int .i64 x262001_1] 45 (0, 0)) (by (with_reducible repeat (first | refine blk_drewN ?_ _ | refine blk_drew ?_ | refine blk_alloc ?_ _)); exact BK261.out)) : gb268 ≠ gb261)); have n8_ := Aside0.mk ((by rw [hg]; exact Nat.ne_of_lt (IsS113.lt (show IsS113 w _ g260 x261000_1 x261001_1 from by repeat (first | (with_reducible first | exact HI260.out | apply IsS113.alloc | apply IsS113.drewN | apply IsS113.drew | apply IsS113.set_0 | apply IsS113.set_1 | refine IsS113.far ?_ NB260_261.out _) | exact HI260.out))) : g260 ≠ gb268)); have n9_ := Aside0.mk ((by rw [hg]; exact Nat.ne_of_gt (IsS113.lt (show IsS113 w _ g260 x261000_1 x261001_1 from by repeat (first | (with_reducible first | exact HI260.out | apply IsS113.alloc | apply IsS113.drewN | apply IsS113.drew | apply IsS113.set_0 | apply IsS113.set_1 | refine IsS113.far ?_ NB260_261.out _) | exact HI260.out))) : gb268 ≠ g260)); clear BK261; clear HI260; clear HB; have BK261 := n0_; have HI260 := n1_; have HB := n2_; have BK268 := n3_; have GW268 := n4_; have GE268 := n5_; have NB261_268 := n6_; have NB268_261 := n7_; have NB260_268 := n8_; have NB268_260 := n9_; clear n0_ n1_ n2_ n3_ n4_ n5_ n6_ n7_ n8_ n9_; clear hb hbox hg; have hnb19 := NB268_261.out; have hnc19 := NB261_268.out; have hnb20 := NB268_260.out; have hnc20 := NB260_268.out; have hcz21_0 : w18.cell? ⟨gb268, 0, none⟩ = some (.int .i64 0) := (blk_cell BK268.out 0).trans rfl; have hcz21_1 : w18.cell? ⟨gb268, 1, none⟩ = some (.int .i64 0) := (blk_cell BK268.out 1).trans rfl; have hfz21_0 := blk_frozen BK268.out 0; have hfz21_1 := blk_frozen BK268.out 1))
                    (try simp only [Act.put, List.setIfInBounds_toArray, List.set_cons_zero, List.set_cons_succ])
                    go_cut [9] (fun v9 wc => ∃ (kq : Nat) (x9_16 : Bool) (x261000_16 : ByteArray) (x261001_16 : Int) (x262000_16 : ByteArray) (x262001_16 : Int), v9 = .bool x9_16 ∧ Aside0 (crosswaylaw03_OctetReads.j2 kq l1 x8_1 x9_16 x261000_16 x261001_16 x262000_16 x262001_16 = some r) ∧ Aside0 (kq ≤ kj11) ∧ Aside0 (wc.heap[gb261]? = some (.cells #[.string x262000_16, .int .i64 x262001_16] 45 (0, 0))) ∧ Aside0 (wc.heap[gb268]? = some (.cells #[.int .i64 ((rd_T47 l1 x8_1).f0), .int .i64 ((rd_T47 l1 x8_1).f1)] 47 (0, 0))) ∧ Aside0 (IsS113 w wc g260 x261000_16 x261001_16) ∧ Aside0 (Below w.heap.size w wc))
                    case first =>
                      have H := HC17.out
                      clear HC17
                      by_cases c22 : (Go.bits .and .i64 ((rd_T47 l1 x8_1).f0) 7) = 0
                      · rw [if_pos c22] at H
                        have c22b0 : ((Go.bits .and .i64 ((rd_T47 l1 x8_1).f0) 7) == 0) = true := beq_iff_eq.mpr c22
                        have c22b1 : ((Go.bits .and .i64 ((rd_T47 l1 x8_1).f0) 7) != 0) = false := bne_eq_false_iff_eq.mpr c22
                        clear c22
                        (first | rw [c22b0] | (simp only [i64_w, i32_w]; rw [c22b0]) | skip)
                        replace H := Option.bind_eq_some_iff.mp H
                        obtain ⟨⟨t269, t270, t271⟩, A230, H⟩ := H
                        replace H : ((octet_Reader_U8.f kj11 x261000_1 x261001_1).bind fun bt273 => (crosswaylaw03_OctetReads.j2 kj11 l1 x8_1 (bt273.1 == (wrap64 (t271))) bt273.2.1 bt273.2.2 t269 t270)) = some r := H
                        have A23 := Aside0.mk A230
                        clear A230
                        replace H := Option.bind_eq_some_iff.mp H
                        obtain ⟨⟨t273, t274, t275⟩, A240, H⟩ := H
                        replace H : (crosswaylaw03_OctetReads.j2 kj11 l1 x8_1 (t273 == (wrap64 (t271))) t274 t275 t269 t270) = some r := H
                        have A24 := Aside0.mk A240
                        clear A240
                        have H' := Aside0.mk H
                        clear H
                        have hnb25 := NB261_268.out
                        have hnc25 := NB268_261.out
                        have hnb26 := NB261_260.out
                        have hnc26 := NB260_261.out
                        have hcz27_0 : w18.cell? ⟨gb261, 0, none⟩ = some (.string x262000_1) := (blk_cell BK261.out 0).trans rfl
                        have hcz27_1 : w18.cell? ⟨gb261, 1, none⟩ = some (.int .i64 x262001_1) := (blk_cell BK261.out 1).trans rfl
                        have hfz27_0 := blk_frozen BK261.out 0
                        have hfz27_1 := blk_frozen BK261.out 1
                        try go_wp2_with (first | ((with_reducible refine gate_callee (f := 31) rfl ?_); refine goesL_ (some 63) rfl rfl Try.func31 (by kernel_rfl) rfl #[.agg #[.string x262000_1, .int .i64 x262001_1], .int .i64 1] rfl (by (try simp only [List.map_toArray, List.map_cons, List.map_nil]); first | done | rfl | (simp only [List.length_drop, List.length_take]; rfl)) ?_; (with_reducible refine (crosswayref03_R_Num.calls kj11 x262000_1 x262001_1 1 t269 t270 t271 _ A23.out).mono ?_); rintro e w28 ⟨rfl, hb⟩; refine ⟨_, rfl, ?_⟩; have n0_ := Aside0.mk (blk_below (g := gb261) (o := .cells #[.string x262000_1, .int .i64 x262001_1] 45 (0, 0)) (by (with_reducible repeat (first | refine blk_drewN ?_ _ | refine blk_drew ?_ | refine blk_alloc ?_ _)); refine blk_far ?_ NB261_268.out _; (with_reducible repeat (first | refine blk_drewN ?_ _ | refine blk_drew ?_ | refine blk_alloc ?_ _)); refine blk_far ?_ NB261_268.out _; (with_reducible repeat (first | refine blk_drewN ?_ _ | refine blk_drew ?_ | refine blk_alloc ?_ _)); exact BK261.out) hb); have n1_ := Aside0.mk (IsS113.below (show IsS113 w ((w18.setCell ⟨gb268, 0, none⟩ (.int .i64 ((rd_T47 l1 x8_1).f0))).setCell ⟨gb268, 1, none⟩ (.int .i64 ((rd_T47 l1 x8_1).f1))) g260 x261000_1 x261001_1 from by repeat (first | (with_reducible first | exact HI260.out | apply IsS113.alloc | apply IsS113.drewN | apply IsS113.drew | apply IsS113.set_0 | apply IsS113.set_1 | refine IsS113.far ?_ NB260_261.out _ | refine IsS113.far ?_ NB260_268.out _) | exact HI260.out)) hb); have n2_ := Aside0.mk (blk_below (g := gb268) (o := .cells #[.int .i64 ((rd_T47 l1 x8_1).f0), .int .i64 ((rd_T47 l1 x8_1).f1)] 47 (0, 0)) (by (with_reducible repeat (first | refine blk_drewN ?_ _ | refine blk_drew ?_ | refine blk_alloc ?_ _)); refine blk_put (cs := #[.int .i64 ((rd_T47 l1 x8_1).f0), .int .i64 0]) ?_ 1 _ rfl; (with_reducible repeat (first | refine blk_drewN ?_ _ | refine blk_drew ?_ | refine blk_alloc ?_ _)); refine blk_put (cs := #[.int .i64 0, .int .i64 0]) ?_ 0 _ rfl; (with_reducible repeat (first | refine blk_drewN ?_ _ | refine blk_drew ?_ | refine blk_alloc ?_ _)); exact BK268.out) hb); have n3_ := Aside0.mk (below_step (by repeat (first | (with_reducible first | exact HB.out | apply below_alloc | apply pw_below_drewN | apply below_drew1 | refine below_set ?_ (IsS113.ge HI260.out) | refine below_set ?_ GE261.out | refine below_set ?_ GE268.out) | exact HB.out)) hb); clear BK261; clear HI260; clear BK268; clear HB; have BK261 := n0_; have HI260 := n1_; have BK268 := n2_; have HB := n3_; clear n0_ n1_ n2_ n3_; (try clear hb); (try clear hb2); (try clear hk); (try clear hi)) | ((with_reducible refine gate_dst (N := 11) rfl ?_); (try (refine gate_guard (by rfl) ?_; dsimp only)); refine box_event ?hg (N := 11) ?hd (cs := #[.string (⟨#[]⟩ : ByteArray), .int .i64 0]) (t := 45) ?hr ?_; (case hd => rfl); (case hg => rfl); (case hr => first | (go_simp; done) | (go_simp; rfl)); intro gb272 hg w29 hbox hb; have n0_ := Aside0.mk (blk_below (g := gb261) (o := .cells #[.string x262000_1, .int .i64 x262001_1] 45 (0, 0)) (by (with_reducible repeat (first | refine blk_drewN ?_ _ | refine blk_drew ?_ | refine blk_alloc ?_ _)); exact BK261.out) hb); have n1_ := Aside0.mk (IsS113.below (by repeat (first | (with_reducible first | exact HI260.out | apply IsS113.alloc | apply IsS113.drewN | apply IsS113.drew | apply IsS113.set_0 | apply IsS113.set_1 | refine IsS113.far ?_ NB260_261.out _ | refine IsS113.far ?_ NB260_268.out _) | exact HI260.out)) hb); have n2_ := Aside0.mk (blk_below (g := gb268) (o := .cells #[.int .i64 ((rd_T47 l1 x8_1).f0), .int .i64 ((rd_T47 l1 x8_1).f1)] 47 (0, 0)) (by (with_reducible repeat (first | refine blk_drewN ?_ _ | refine blk_drew ?_ | refine blk_alloc ?_ _)); exact BK268.out) hb); have n3_ := Aside0.mk (below_step (by repeat (first | (with_reducible first | exact HB.out | apply below_alloc | apply pw_below_drewN | apply below_drew1 | refine below_set ?_ (IsS113.ge HI260.out) | refine below_set ?_ GE261.out | refine below_set ?_ GE268.out) | exact HB.out)) hb); have n4_ := Aside0.mk (hbox); have n5_ := Aside0.mk ((by rw [hg]; exact (below_size (by repeat (first | (with_reducible first | exact HB.out | apply below_alloc | apply pw_below_drewN | apply below_drew1 | refine below_set ?_ (IsS113.ge HI260.out) | refine below_set ?_ GE261.out | refine below_set ?_ GE268.out) | exact HB.out))) : w.heap.size ≤ gb272)); have n6_ := Aside0.mk ((by rw [hg]; exact (below_size (by repeat (first | (with_reducible first | exact HB.out | apply below_alloc | apply pw_below_drewN | apply below_drew1 | refine below_set ?_ (IsS113.ge HI260.out) | refine below_set ?_ GE261.out | refine below_set ?_ GE268.out) | exact HB.out))) : w.heap.size ≤ gb272)); have n7_ := Aside0.mk ((by rw [hg]; exact Nat.ne_of_lt (blk_lt (g := gb261) (o := .cells #[.string x262000_1, .int .i64 x262001_1] 45 (0, 0)) (by (with_reducible repeat (first | refine blk_drewN ?_ _ | refine blk_drew ?_ | refine blk_alloc ?_ _)); exact BK261.out)) : gb261 ≠ gb272)); have n8_ := Aside0.mk ((by rw [hg]; exact Nat.ne_of_gt (blk_lt (g := gb261) (o := .cells #[.string x262000_1, .int .i64 x262001_1] 45 (0, 0)) (by (with_reducible repeat (first | refine blk_drewN ?_ _ | refine blk_drew ?_ | refine blk_alloc ?_ _)); exact BK261.out)) : gb272 ≠ gb261)); have n9_ := Aside0.mk ((by rw [hg]; exact Nat.ne_of_lt (blk_lt (g := gb268) (o := .cells #[.int .i64 ((rd_T47 l1 x8_1).f0), .int .i64 ((rd_T47 l1 x8_1).f1)] 47 (0, 0)) (by (with_reducible repeat (first | refine blk_drewN ?_ _ | refine blk_drew ?_ | refine blk_alloc ?_ _)); exact BK268.out)) : gb268 ≠ gb272)); have n10_ := Aside0.mk ((by rw [hg]; exact Nat.ne_of_gt (blk_lt (g := gb268) (o := .cells #[.int .i64 ((rd_T47 l1 x8_1).f0), .int .i64 ((rd_T47 l1 x8_1).f1)] 47 (0, 0)) (by (with_reducible repeat (first | refine blk_drewN ?_ _ | refine blk_drew ?_ | refine blk_alloc ?_ _)); exact BK268.out)) : gb272 ≠ gb268)); have n11_ := Aside0.mk ((by rw [hg]; exact Nat.ne_of_lt (IsS113.lt (show IsS113 w _ g260 x261000_1 x261001_1 from by repeat (first | (with_reducible first | exact HI260.out | apply IsS113.alloc | apply IsS113.drewN | apply IsS113.drew | apply IsS113.set_0 | apply IsS113.set_1 | refine IsS113.far ?_ NB260_261.out _ | refine IsS113.far ?_ NB260_268.out _) | exact HI260.out))) : g260 ≠ gb272)); have n12_ := Aside0.mk ((by rw [hg]; exact Nat.ne_of_gt (IsS113.lt (show IsS113 w _ g260 x261000_1 x261001_1 from by repeat (first | (with_reducible first | exact HI260.out | apply IsS113.alloc | apply IsS113.drewN | apply IsS113.drew | apply IsS113.set_0 | apply IsS113.set_1 | refine IsS113.far ?_ NB260_261.out _ | refine IsS113.far ?_ NB260_268.out _) | exact HI260.out))) : gb272 ≠ g260)); clear BK261; clear HI260; clear BK268; clear HB; have BK261 := n0_; have HI260 := n1_; have BK268 := n2_; have HB := n3_; have BK272 := n4_; have GW272 := n5_; have GE272 := n6_; have NB261_272 := n7_; have NB272_261 := n8_; have NB268_272 := n9_; have NB272_268 := n10_; have NB260_272 := n11_; have NB272_260 := n12_; clear n0_ n1_ n2_ n3_ n4_ n5_ n6_ n7_ n8_ n9_ n10_ n11_ n12_; clear hb hbox hg; have hnb30 := NB272_261.out; have hnc30 := NB261_272.out; have hnb31 := NB272_268.out; have hnc31 := NB268_272.out; have hnb32 := NB272_260.out; have hnc32 := NB260_272.out; have hcz33_0 : w29.cell? ⟨gb272, 0, none⟩ = some (.string (⟨#[]⟩ : ByteArray)) := (blk_cell BK272.out 0).trans rfl; have hcz33_1 : w29.cell? ⟨gb272, 1, none⟩ = some (.int .i64 0) := (blk_cell BK272.out 1).trans rfl; have hfz33_0 := blk_frozen BK272.out 0; have hfz33_1 := blk_frozen BK272.out 1))
                        have n0_ : Aside0 (((w29.setCell ⟨gb272, 0, none⟩ (.string t269)).setCell ⟨gb272, 1, none⟩ (.int .i64 t270)).heap[gb261]? = some (.cells #[.string x262000_1, .int .i64 x262001_1] 45 (0, 0))) := ⟨by (with_reducible repeat (first | refine blk_drewN ?_ _ | refine blk_drew ?_ | refine blk_alloc ?_ _)); refine blk_far ?_ NB261_272.out _; (with_reducible repeat (first | refine blk_drewN ?_ _ | refine blk_drew ?_ | refine blk_alloc ?_ _)); refine blk_far ?_ NB261_272.out _; (with_reducible repeat (first | refine blk_drewN ?_ _ | refine blk_drew ?_ | refine blk_alloc ?_ _)); exact BK261.out⟩
                        have n1_ : Aside0 (((w29.setCell ⟨gb272, 0, none⟩ (.string t269)).setCell ⟨gb272, 1, none⟩ (.int .i64 t270)).heap[gb268]? = some (.cells #[.int .i64 ((rd_T47 l1 x8_1).f0), .int .i64 ((rd_T47 l1 x8_1).f1)] 47 (0, 0))) := ⟨by (with_reducible repeat (first | refine blk_drewN ?_ _ | refine blk_drew ?_ | refine blk_alloc ?_ _)); refine blk_far ?_ NB268_272.out _; (with_reducible repeat (first | refine blk_drewN ?_ _ | refine blk_drew ?_ | refine blk_alloc ?_ _)); refine blk_far ?_ NB268_272.out _; (with_reducible repeat (first | refine blk_drewN ?_ _ | refine blk_drew ?_ | refine blk_alloc ?_ _)); exact BK268.out⟩
                        have n2_ : Aside0 (((w29.setCell ⟨gb272, 0, none⟩ (.string t269)).setCell ⟨gb272, 1, none⟩ (.int .i64 t270)).heap[gb272]? = some (.cells #[.string t269, .int .i64 t270] 45 (0, 0))) := ⟨by (with_reducible repeat (first | refine blk_drewN ?_ _ | refine blk_drew ?_ | refine blk_alloc ?_ _)); refine blk_put (cs := #[.string t269, .int .i64 0]) ?_ 1 _ rfl; (with_reducible repeat (first | refine blk_drewN ?_ _ | refine blk_drew ?_ | refine blk_alloc ?_ _)); refine blk_put (cs := #[.string (⟨#[]⟩ : ByteArray), .int .i64 0]) ?_ 0 _ rfl; (with_reducible repeat (first | refine blk_drewN ?_ _ | refine blk_drew ?_ | refine blk_alloc ?_ _)); exact BK272.out⟩
                        have n3_ : Aside0 (IsS113 w ((w29.setCell ⟨gb272, 0, none⟩ (.string t269)).setCell ⟨gb272, 1, none⟩ (.int .i64 t270)) g260 x261000_1 x261001_1) := ⟨by repeat (first | (with_reducible first | exact HI260.out | apply IsS113.alloc | apply IsS113.drewN | apply IsS113.drew | apply IsS113.set_0 | apply IsS113.set_1 | refine IsS113.far ?_ NB260_261.out _ | refine IsS113.far ?_ NB260_268.out _ | refine IsS113.far ?_ NB260_272.out _) | exact HI260.out)⟩
                        have n4_ : Aside0 (Below w.heap.size w ((w29.setCell ⟨gb272, 0, none⟩ (.string t269)).setCell ⟨gb272, 1, none⟩ (.int .i64 t270))) := ⟨by repeat (first | (with_reducible first | exact HB.out | apply below_alloc | apply pw_below_drewN | apply below_drew1 | refine below_set ?_ (IsS113.ge HI260.out) | refine below_set ?_ GE261.out | refine below_set ?_ GE268.out | refine below_set ?_ GE272.out) | exact HB.out)⟩
                        (try clear BK261)
                        (try clear BK268)
                        (try clear BK272)
                        (try clear HI260)
                        (try clear HB)
                        generalize ((w29.setCell ⟨gb272, 0, none⟩ (.string t269)).setCell ⟨gb272, 1, none⟩ (.int .i64 t270)) = w34 at n0_ n1_ n2_ n3_ n4_ ⊢
                        have BK261 := n0_
                        have BK268 := n1_
                        have BK272 := n2_
                        have HI260 := n3_
                        have HB := n4_
                        clear n0_ n1_ n2_ n3_ n4_
                        have n0_ := Aside0.mk (blk_drew BK261.out)
                        have n1_ := Aside0.mk (blk_drew BK268.out)
                        have n2_ := Aside0.mk (blk_drew BK272.out)
                        have n3_ := Aside0.mk (IsS113.drew HI260.out)
                        have n4_ := Aside0.mk (below_drew1 HB.out)
                        clear BK261
                        clear BK268
                        clear BK272
                        clear HI260
                        clear HB
                        have BK261 := n0_
                        have BK268 := n1_
                        have BK272 := n2_
                        have HI260 := n3_
                        have HB := n4_
                        clear n0_ n1_ n2_ n3_ n4_
                        refine start_ (n := 8) (S := fun w' => w'.cell? ⟨gb272, 0, none⟩ = some (.string t269) ∧ w'.cell? ⟨gb272, 1, none⟩ = some (.int .i64 t270)) (ds := []) #[false, false, false, false, false, false, false, false] (by kernel_rfl) rfl rfl ⟨(blk_cell BK272.out 0).trans rfl, (blk_cell BK272.out 1).trans rfl⟩ (fun hHeld => ?_); refine with_tabW crosswaylaw03_OctetReads.tab13 crosswaylaw03_OctetReads.bits13 (fun HT_ HW_ => ?_)
                        generalize w34.drew = w35 at BK261 BK268 BK272 HI260 HB hHeld ⊢
                        refine pure_ (i := 1) (N := some 67) (v := ?_) (a' := ?_) #[false, true, false, false, false, false, false, false] rfl rfl (any_of HT_.out (by kernel_rfl)) (fun _ _ _ h => h) (Or.inl ⟨by rfl, ?_⟩) ?_ ?_
                        rotate_left
                        · intro w'
                          go_simp
                          with_reducible rfl
                        rotate_left
                        · simp only [Act.put, List.setIfInBounds_toArray, List.set_cons_zero, List.set_cons_succ, i64_w, i32_w]
                          rfl
                        refine pure_ (i := 3) (N := some 69) (v := ?_) (a' := ?_) #[false, true, false, true, false, false, false, false] rfl rfl (any_of HT_.out (by kernel_rfl)) (fun _ _ _ h => h) (Or.inl ⟨by rfl, ?_⟩) ?_ ?_
                        rotate_left
                        · intro w'
                          go_simp
                          with_reducible rfl
                        rotate_left
                        · simp only [Act.put, List.setIfInBounds_toArray, List.set_cons_zero, List.set_cons_succ, i64_w, i32_w]
                          rfl
                        refine pure_ (i := 4) (N := some 70) (v := ?_) (a' := ?_) #[false, true, false, true, true, false, false, false] rfl rfl (any_of HT_.out (by kernel_rfl)) (fun _ _ _ h => h) (Or.inl ⟨by rfl, ?_⟩) ?_ ?_
                        rotate_left
                        · intro w'
                          go_simp
                          with_reducible rfl
                        rotate_left
                        · simp only [Act.put, List.setIfInBounds_toArray, List.set_cons_zero, List.set_cons_succ, i64_w, i32_w]
                          rfl
                        refine take_ (i := 0) (N := some 66) (v := ?_) (a' := ?_) #[true, true, false, true, true, false, false, false] rfl rfl (take_ofW HT_.out HW_.out (by kernel_rfl)) (fun _ _ _ h => h) (Or.inl ⟨by rfl, ?_⟩) hHeld ?_ ?_
                        rotate_left
                        · rintro w' ⟨s0, s1⟩
                          go_simp
                          with_reducible rfl
                        rotate_left
                        · simp only [Act.put, List.setIfInBounds_toArray, List.set_cons_zero, List.set_cons_succ, i64_w, i32_w]
                          rfl
                        refine one_ (i := 2) (N := some 68) #[true, true, true, true, true, false, false, false] rfl rfl (one_of HT_.out (by kernel_rfl)) (by decide) (fun K hK => ?_)
                        refine goes_ Try.func32 (by kernel_rfl) rfl #[.pointer (some ⟨g260, 0, none⟩)] (by rfl) rfl rfl (by (try simp only [List.map_toArray, List.map_cons, List.map_nil]); first | done | rfl | (simp only [List.length_drop, List.length_take]; rfl)) ?_
                        with_reducible refine (octet_Reader_U8.calls kj11 g260 x261000_1 x261001_1 t273 t274 t275 w _ ?side1 ?side2 A24.out).mono ?_
                        (case side1 => repeat (first | (with_reducible first | exact HI260.out | apply IsS113.alloc | apply IsS113.drewN | apply IsS113.drew | apply IsS113.set_0 | apply IsS113.set_1 | refine IsS113.far ?_ NB260_261.out _ | refine IsS113.far ?_ NB260_268.out _ | refine IsS113.far ?_ NB260_272.out _) | exact HI260.out))
                        (case side2 => repeat (first | (with_reducible first | exact HB.out | apply below_alloc | apply pw_below_drewN | apply below_drew1 | refine below_set ?_ (IsS113.ge HI260.out) | refine below_set ?_ GE261.out | refine below_set ?_ GE268.out | refine below_set ?_ GE272.out) | exact HB.out))
                        rintro e w36 ⟨rfl, hi, hb, hk⟩
                        refine ⟨_, rfl, ?_⟩
                        have n0_ := Aside0.mk (KeepBut.blk hk (g' := gb261) (o := .cells #[.string x262000_1, .int .i64 x262001_1] 45 (0, 0)) (by (with_reducible repeat (first | refine blk_drewN ?_ _ | refine blk_drew ?_ | refine blk_alloc ?_ _)); exact BK261.out) NB261_260.out (by simp))
                        have n1_ := Aside0.mk (KeepBut.blk hk (g' := gb268) (o := .cells #[.int .i64 ((rd_T47 l1 x8_1).f0), .int .i64 ((rd_T47 l1 x8_1).f1)] 47 (0, 0)) (by (with_reducible repeat (first | refine blk_drewN ?_ _ | refine blk_drew ?_ | refine blk_alloc ?_ _)); exact BK268.out) NB268_260.out (by simp))
                        have n2_ := Aside0.mk (KeepBut.blk hk (g' := gb272) (o := .cells #[.string t269, .int .i64 t270] 45 (0, 0)) (by (with_reducible repeat (first | refine blk_drewN ?_ _ | refine blk_drew ?_ | refine blk_alloc ?_ _)); exact BK272.out) NB272_260.out (by simp))
                        have n3_ := Aside0.mk (hb)
                        have n4_ := Aside0.mk (hi)
                        clear BK261
                        clear BK268
                        clear BK272
                        clear HB
                        clear HI260
                        have BK261 := n0_
                        have BK268 := n1_
                        have BK272 := n2_
                        have HB := n3_
                        have HI260 := n4_
                        clear n0_ n1_ n2_ n3_ n4_
                        (try clear hb)
                        (try clear hb2)
                        (try clear hk)
                        (try clear hi)
                        refine hK.out _ _ ⟨(blk_cell BK272.out 0).trans rfl, (blk_cell BK272.out 1).trans rfl⟩ (fun hHeld => ?_)
                        clear hK K
                        refine norm_ (a' := ?_) ?_ ?_
                        rotate_left
                        · show Act.put _ (some 68) _ = _
                          simp only [Act.put, List.setIfInBounds_toArray, List.set_cons_zero, List.set_cons_succ, i64_w, i32_w]
                          rfl
                        refine pure_ (i := 5) (N := some 71) (v := ?_) (a' := ?_) #[true, true, true, true, true, true, false, false] rfl rfl (any_of HT_.out (by kernel_rfl)) (fun _ _ _ h => h) (Or.inl ⟨by rfl, ?_⟩) ?_ ?_
                        rotate_left
                        · intro w'
                          go_simp
                          with_reducible rfl
                        rotate_left
                        · simp only [Act.put, List.setIfInBounds_toArray, List.set_cons_zero, List.set_cons_succ, i64_w, i32_w]
                          rfl
                        refine one_ (i := 6) (N := none) #[true, true, true, true, true, true, true, false] rfl rfl (one_of HT_.out (by kernel_rfl)) (by decide) (fun K hK => ?_)
                        have hs37 : w36.cell? ⟨gb261, 0, none⟩ = some (.string x262000_1) := (blk_cell BK261.out 0).trans rfl
                        have hfs37 := blk_frozen BK261.out 0
                        have hns37_1 := NB268_261.out
                        have hns37_2 := NB272_261.out
                        have hms37_1 := NB261_268.out
                        have hms37_2 := NB261_272.out
                        have hs38 : w36.cell? ⟨gb261, 1, none⟩ = some (.int .i64 x262001_1) := (blk_cell BK261.out 1).trans rfl
                        have hfs38 := blk_frozen BK261.out 1
                        have hns38_1 := NB268_261.out
                        have hns38_2 := NB272_261.out
                        have hms38_1 := NB261_268.out
                        have hms38_2 := NB261_272.out
                        refine skip_ (w1 := ?_) (by rfl) rfl ?_ ?_
                        rotate_left
                        · go_simp
                          rfl
                        refine hK.out _ _ ⟨((cell_far (p := ⟨gb261, _, none⟩) NB272_261.out _).trans (((cell_far (p := ⟨gb261, _, none⟩) NB272_261.out _).trans (hHeld.1)))), ((cell_far (p := ⟨gb261, _, none⟩) NB272_261.out _).trans (((cell_far (p := ⟨gb261, _, none⟩) NB272_261.out _).trans (hHeld.2))))⟩ (fun hHeld => ?_)
                        clear hK K
                        refine pure_ (i := 7) (N := some 9) (v := ?_) (a' := ?_) #[true, true, true, true, true, true, true, true] rfl rfl (any_of HT_.out (by kernel_rfl)) (fun _ _ _ h => h) (Or.inl ⟨by rfl, ?_⟩) ?_ ?_
                        rotate_left
                        · intro w'
                          go_simp
                          with_reducible rfl
                        rotate_left
                        · simp only [Act.put, List.setIfInBounds_toArray, List.set_cons_zero, List.set_cons_succ, i64_w, i32_w]
                          rfl
                        refine done_ (done_of HT_.out (by kernel_rfl)) ?_
                        try go_wp2
                        go_meet
                        case rel => exact ⟨_, ((t273 == (wrap64 (t271)))), (t274), (t275), (t269), (t270), (by first | rfl | (simp; done) | (simp [*]; done)), H', ⟨by have := HK1.out; have := HJ11.out; first | omega | exact Nat.le_refl _⟩, ⟨by (with_reducible repeat (first | refine blk_drewN ?_ _ | refine blk_drew ?_ | refine blk_alloc ?_ _)); refine blk_put (cs := #[.string t269, .int .i64 x262001_1]) ?_ 1 _ rfl; (with_reducible repeat (first | refine blk_drewN ?_ _ | refine blk_drew ?_ | refine blk_alloc ?_ _)); refine blk_put (cs := #[.string x262000_1, .int .i64 x262001_1]) ?_ 0 _ rfl; (with_reducible repeat (first | refine blk_drewN ?_ _ | refine blk_drew ?_ | refine blk_alloc ?_ _)); exact BK261.out⟩, ⟨by (with_reducible repeat (first | refine blk_drewN ?_ _ | refine blk_drew ?_ | refine blk_alloc ?_ _)); refine blk_far ?_ NB268_261.out _; (with_reducible repeat (first | refine blk_drewN ?_ _ | refine blk_drew ?_ | refine blk_alloc ?_ _)); refine blk_far ?_ NB268_261.out _; (with_reducible repeat (first | refine blk_drewN ?_ _ | refine blk_drew ?_ | refine blk_alloc ?_ _)); exact BK268.out⟩, ⟨by repeat (first | (with_reducible first | exact HI260.out | apply IsS113.alloc | apply IsS113.drewN | apply IsS113.drew | apply IsS113.set_0 | apply IsS113.set_1 | refine IsS113.far ?_ NB260_261.out _ | refine IsS113.far ?_ NB260_268.out _ | refine IsS113.far ?_ NB260_272.out _) | exact HI260.out)⟩, ⟨by repeat (first | (with_reducible first | exact HB.out | apply below_alloc | apply pw_below_drewN | apply below_drew1 | refine below_set ?_ (IsS113.ge HI260.out) | refine below_set ?_ GE261.out | refine below_set ?_ GE268.out | refine below_set ?_ GE272.out) | exact HB.out)⟩⟩
                      · rw [if_neg c22] at H
                        have c22b0 : ((Go.bits .and .i64 ((rd_T47 l1 x8_1).f0) 7) == 0) = false := beq_eq_false_iff_ne.mpr c22
                        have c22b1 : ((Go.bits .and .i64 ((rd_T47 l1 x8_1).f0) 7) != 0) = true := bne_iff_ne.mpr c22
                        (first | rw [c22b0] | (simp only [i64_w, i32_w]; rw [c22b0]) | skip)
                        by_cases c39 : (Go.bits .and .i64 ((rd_T47 l1 x8_1).f0) 7) = 1
                        · rw [if_pos c39] at H
                          have c39b0 : ((Go.bits .and .i64 ((rd_T47 l1 x8_1).f0) 7) == 1) = true := beq_iff_eq.mpr c39
                          have c39b1 : ((Go.bits .and .i64 ((rd_T47 l1 x8_1).f0) 7) != 1) = false := bne_eq_false_iff_eq.mpr c39
                          clear c39
                          replace H := Option.bind_eq_some_iff.mp H
                          obtain ⟨⟨t276, t277, t278⟩, A400, H⟩ := H
                          replace H : ((octet_Reader_U16.f kj11 x261000_1 x261001_1).bind fun bt280 => (crosswaylaw03_OctetReads.j2 kj11 l1 x8_1 (bt280.1 == (wrap64 (t278))) bt280.2.1 bt280.2.2 t276 t277)) = some r := H
                          have A40 := Aside0.mk A400
                          clear A400
                          replace H := Option.bind_eq_some_iff.mp H
                          obtain ⟨⟨t280, t281, t282⟩, A410, H⟩ := H
                          replace H : (crosswaylaw03_OctetReads.j2 kj11 l1 x8_1 (t280 == (wrap64 (t278))) t281 t282 t276 t277) = some r := H
                          have A41 := Aside0.mk A410
                          clear A410
                          have H' := Aside0.mk H
                          clear H
                          have hnb42 := NB261_268.out
                          have hnc42 := NB268_261.out
                          have hnb43 := NB261_260.out
                          have hnc43 := NB260_261.out
                          have hcz44_0 : w18.cell? ⟨gb261, 0, none⟩ = some (.string x262000_1) := (blk_cell BK261.out 0).trans rfl
                          have hcz44_1 : w18.cell? ⟨gb261, 1, none⟩ = some (.int .i64 x262001_1) := (blk_cell BK261.out 1).trans rfl
                          have hfz44_0 := blk_frozen BK261.out 0
                          have hfz44_1 := blk_frozen BK261.out 1
                          try go_wp2_with (first | ((with_reducible refine gate_callee (f := 31) rfl ?_); refine goesL_ (some 76) rfl rfl Try.func31 (by kernel_rfl) rfl #[.agg #[.string x262000_1, .int .i64 x262001_1], .int .i64 2] rfl (by (try simp only [List.map_toArray, List.map_cons, List.map_nil]); first | done | rfl | (simp only [List.length_drop, List.length_take]; rfl)) ?_; (with_reducible refine (crosswayref03_R_Num.calls kj11 x262000_1 x262001_1 2 t276 t277 t278 _ A40.out).mono ?_); rintro e w45 ⟨rfl, hb⟩; refine ⟨_, rfl, ?_⟩; have n0_ := Aside0.mk (blk_below (g := gb261) (o := .cells #[.string x262000_1, .int .i64 x262001_1] 45 (0, 0)) (by (with_reducible repeat (first | refine blk_drewN ?_ _ | refine blk_drew ?_ | refine blk_alloc ?_ _)); refine blk_far ?_ NB261_268.out _; (with_reducible repeat (first | refine blk_drewN ?_ _ | refine blk_drew ?_ | refine blk_alloc ?_ _)); refine blk_far ?_ NB261_268.out _; (with_reducible repeat (first | refine blk_drewN ?_ _ | refine blk_drew ?_ | refine blk_alloc ?_ _)); exact BK261.out) hb); have n1_ := Aside0.mk (IsS113.below (show IsS113 w ((w18.setCell ⟨gb268, 0, none⟩ (.int .i64 ((rd_T47 l1 x8_1).f0))).setCell ⟨gb268, 1, none⟩ (.int .i64 ((rd_T47 l1 x8_1).f1))) g260 x261000_1 x261001_1 from by repeat (first | (with_reducible first | exact HI260.out | apply IsS113.alloc | apply IsS113.drewN | apply IsS113.drew | apply IsS113.set_0 | apply IsS113.set_1 | refine IsS113.far ?_ NB260_261.out _ | refine IsS113.far ?_ NB260_268.out _) | exact HI260.out)) hb); have n2_ := Aside0.mk (blk_below (g := gb268) (o := .cells #[.int .i64 ((rd_T47 l1 x8_1).f0), .int .i64 ((rd_T47 l1 x8_1).f1)] 47 (0, 0)) (by (with_reducible repeat (first | refine blk_drewN ?_ _ | refine blk_drew ?_ | refine blk_alloc ?_ _)); refine blk_put (cs := #[.int .i64 ((rd_T47 l1 x8_1).f0), .int .i64 0]) ?_ 1 _ rfl; (with_reducible repeat (first | refine blk_drewN ?_ _ | refine blk_drew ?_ | refine blk_alloc ?_ _)); refine blk_put (cs := #[.int .i64 0, .int .i64 0]) ?_ 0 _ rfl; (with_reducible repeat (first | refine blk_drewN ?_ _ | refine blk_drew ?_ | refine blk_alloc ?_ _)); exact BK268.out) hb); have n3_ := Aside0.mk (below_step (by repeat (first | (with_reducible first | exact HB.out | apply below_alloc | apply pw_below_drewN | apply below_drew1 | refine below_set ?_ (IsS113.ge HI260.out) | refine below_set ?_ GE261.out | refine below_set ?_ GE268.out) | exact HB.out)) hb); clear BK261; clear HI260; clear BK268; clear HB; have BK261 := n0_; have HI260 := n1_; have BK268 := n2_; have HB := n3_; clear n0_ n1_ n2_ n3_; (try clear hb); (try clear hb2); (try clear hk); (try clear hi)) | ((with_reducible refine gate_dst (N := 13) rfl ?_); (try (refine gate_guard (by rfl) ?_; dsimp only)); refine box_event ?hg (N := 13) ?hd (cs := #[.string (⟨#[]⟩ : ByteArray), .int .i64 0]) (t := 45) ?hr ?_; (case hd => rfl); (case hg => rfl); (case hr => first | (go_simp; done) | (go_simp; rfl)); intro gb279 hg w46 hbox hb; have n0_ := Aside0.mk (blk_below (g := gb261) (o := .cells #[.string x262000_1, .int .i64 x262001_1] 45 (0, 0)) (by (with_reducible repeat (first | refine blk_drewN ?_ _ | refine blk_drew ?_ | refine blk_alloc ?_ _)); exact BK261.out) hb); have n1_ := Aside0.mk (IsS113.below (by repeat (first | (with_reducible first | exact HI260.out | apply IsS113.alloc | apply IsS113.drewN | apply IsS113.drew | apply IsS113.set_0 | apply IsS113.set_1 | refine IsS113.far ?_ NB260_261.out _ | refine IsS113.far ?_ NB260_268.out _) | exact HI260.out)) hb); have n2_ := Aside0.mk (blk_below (g := gb268) (o := .cells #[.int .i64 ((rd_T47 l1 x8_1).f0), .int .i64 ((rd_T47 l1 x8_1).f1)] 47 (0, 0)) (by (with_reducible repeat (first | refine blk_drewN ?_ _ | refine blk_drew ?_ | refine blk_alloc ?_ _)); exact BK268.out) hb); have n3_ := Aside0.mk (below_step (by repeat (first | (with_reducible first | exact HB.out | apply below_alloc | apply pw_below_drewN | apply below_drew1 | refine below_set ?_ (IsS113.ge HI260.out) | refine below_set ?_ GE261.out | refine below_set ?_ GE268.out) | exact HB.out)) hb); have n4_ := Aside0.mk (hbox); have n5_ := Aside0.mk ((by rw [hg]; exact (below_size (by repeat (first | (with_reducible first | exact HB.out | apply below_alloc | apply pw_below_drewN | apply below_drew1 | refine below_set ?_ (IsS113.ge HI260.out) | refine below_set ?_ GE261.out | refine below_set ?_ GE268.out) | exact HB.out))) : w.heap.size ≤ gb279)); have n6_ := Aside0.mk ((by rw [hg]; exact (below_size (by repeat (first | (with_reducible first | exact HB.out | apply below_alloc | apply pw_below_drewN | apply below_drew1 | refine below_set ?_ (IsS113.ge HI260.out) | refine below_set ?_ GE261.out | refine below_set ?_ GE268.out) | exact HB.out))) : w.heap.size ≤ gb279)); have n7_ := Aside0.mk ((by rw [hg]; exact Nat.ne_of_lt (blk_lt (g := gb261) (o := .cells #[.string x262000_1, .int .i64 x262001_1] 45 (0, 0)) (by (with_reducible repeat (first | refine blk_drewN ?_ _ | refine blk_drew ?_ | refine blk_alloc ?_ _)); exact BK261.out)) : gb261 ≠ gb279)); have n8_ := Aside0.mk ((by rw [hg]; exact Nat.ne_of_gt (blk_lt (g := gb261) (o := .cells #[.string x262000_1, .int .i64 x262001_1] 45 (0, 0)) (by (with_reducible repeat (first | refine blk_drewN ?_ _ | refine blk_drew ?_ | refine blk_alloc ?_ _)); exact BK261.out)) : gb279 ≠ gb261)); have n9_ := Aside0.mk ((by rw [hg]; exact Nat.ne_of_lt (blk_lt (g := gb268) (o := .cells #[.int .i64 ((rd_T47 l1 x8_1).f0), .int .i64 ((rd_T47 l1 x8_1).f1)] 47 (0, 0)) (by (with_reducible repeat (first | refine blk_drewN ?_ _ | refine blk_drew ?_ | refine blk_alloc ?_ _)); exact BK268.out)) : gb268 ≠ gb279)); have n10_ := Aside0.mk ((by rw [hg]; exact Nat.ne_of_gt (blk_lt (g := gb268) (o := .cells #[.int .i64 ((rd_T47 l1 x8_1).f0), .int .i64 ((rd_T47 l1 x8_1).f1)] 47 (0, 0)) (by (with_reducible repeat (first | refine blk_drewN ?_ _ | refine blk_drew ?_ | refine blk_alloc ?_ _)); exact BK268.out)) : gb279 ≠ gb268)); have n11_ := Aside0.mk ((by rw [hg]; exact Nat.ne_of_lt (IsS113.lt (show IsS113 w _ g260 x261000_1 x261001_1 from by repeat (first | (with_reducible first | exact HI260.out | apply IsS113.alloc | apply IsS113.drewN | apply IsS113.drew | apply IsS113.set_0 | apply IsS113.set_1 | refine IsS113.far ?_ NB260_261.out _ | refine IsS113.far ?_ NB260_268.out _) | exact HI260.out))) : g260 ≠ gb279)); have n12_ := Aside0.mk ((by rw [hg]; exact Nat.ne_of_gt (IsS113.lt (show IsS113 w _ g260 x261000_1 x261001_1 from by repeat (first | (with_reducible first | exact HI260.out | apply IsS113.alloc | apply IsS113.drewN | apply IsS113.drew | apply IsS113.set_0 | apply IsS113.set_1 | refine IsS113.far ?_ NB260_261.out _ | refine IsS113.far ?_ NB260_268.out _) | exact HI260.out))) : gb279 ≠ g260)); clear BK261; clear HI260; clear BK268; clear HB; have BK261 := n0_; have HI260 := n1_; have BK268 := n2_; have HB := n3_; have BK279 := n4_; have GW279 := n5_; have GE279 := n6_; have NB261_279 := n7_; have NB279_261 := n8_; have NB268_279 := n9_; have NB279_268 := n10_; have NB260_279 := n11_; have NB279_260 := n12_; clear n0_ n1_ n2_ n3_ n4_ n5_ n6_ n7_ n8_ n9_ n10_ n11_ n12_; clear hb hbox hg; have hnb47 := NB279_261.out; have hnc47 := NB261_279.out; have hnb48 := NB279_268.out; have hnc48 := NB268_279.out; have hnb49 := NB279_260.out; have hnc49 := NB260_279.out; have hcz50_0 : w46.cell? ⟨gb279, 0, none⟩ = some (.string (⟨#[]⟩ : ByteArray)) := (blk_cell BK279.out 0).trans rfl; have hcz50_1 : w46.cell? ⟨gb279, 1, none⟩ = some (.int .i64 0) := (blk_cell BK279.out 1).trans rfl; have hfz50_0 := blk_frozen BK279.out 0; have hfz50_1 := blk_frozen BK279.out 1))
                          have n0_ : Aside0 (((w46.setCell ⟨gb279, 0, none⟩ (.string t276)).setCell ⟨gb279, 1, none⟩ (.int .i64 t277)).heap[gb261]? = some (.cells #[.string x262000_1, .int .i64 x262001_1] 45 (0, 0))) := ⟨by (with_reducible repeat (first | refine blk_drewN ?_ _ | refine blk_drew ?_ | refine blk_alloc ?_ _)); refine blk_far ?_ NB261_279.out _; (with_reducible repeat (first | refine blk_drewN ?_ _ | refine blk_drew ?_ | refine blk_alloc ?_ _)); refine blk_far ?_ NB261_279.out _; (with_reducible repeat (first | refine blk_drewN ?_ _ | refine blk_drew ?_ | refine blk_alloc ?_ _)); exact BK261.out⟩
                          have n1_ : Aside0 (((w46.setCell ⟨gb279, 0, none⟩ (.string t276)).setCell ⟨gb279, 1, none⟩ (.int .i64 t277)).heap[gb268]? = some (.cells #[.int .i64 ((rd_T47 l1 x8_1).f0), .int .i64 ((rd_T47 l1 x8_1).f1)] 47 (0, 0))) := ⟨by (with_reducible repeat (first | refine blk_drewN ?_ _ | refine blk_drew ?_ | refine blk_alloc ?_ _)); refine blk_far ?_ NB268_279.out _; (with_reducible repeat (first | refine blk_drewN ?_ _ | refine blk_drew ?_ | refine blk_alloc ?_ _)); refine blk_far ?_ NB268_279.out _; (with_reducible repeat (first | refine blk_drewN ?_ _ | refine blk_drew ?_ | refine blk_alloc ?_ _)); exact BK268.out⟩
                          have n2_ : Aside0 (((w46.setCell ⟨gb279, 0, none⟩ (.string t276)).setCell ⟨gb279, 1, none⟩ (.int .i64 t277)).heap[gb279]? = some (.cells #[.string t276, .int .i64 t277] 45 (0, 0))) := ⟨by (with_reducible repeat (first | refine blk_drewN ?_ _ | refine blk_drew ?_ | refine blk_alloc ?_ _)); refine blk_put (cs := #[.string t276, .int .i64 0]) ?_ 1 _ rfl; (with_reducible repeat (first | refine blk_drewN ?_ _ | refine blk_drew ?_ | refine blk_alloc ?_ _)); refine blk_put (cs := #[.string (⟨#[]⟩ : ByteArray), .int .i64 0]) ?_ 0 _ rfl; (with_reducible repeat (first | refine blk_drewN ?_ _ | refine blk_drew ?_ | refine blk_alloc ?_ _)); exact BK279.out⟩
                          have n3_ : Aside0 (IsS113 w ((w46.setCell ⟨gb279, 0, none⟩ (.string t276)).setCell ⟨gb279, 1, none⟩ (.int .i64 t277)) g260 x261000_1 x261001_1) := ⟨by repeat (first | (with_reducible first | exact HI260.out | apply IsS113.alloc | apply IsS113.drewN | apply IsS113.drew | apply IsS113.set_0 | apply IsS113.set_1 | refine IsS113.far ?_ NB260_261.out _ | refine IsS113.far ?_ NB260_268.out _ | refine IsS113.far ?_ NB260_279.out _) | exact HI260.out)⟩
                          have n4_ : Aside0 (Below w.heap.size w ((w46.setCell ⟨gb279, 0, none⟩ (.string t276)).setCell ⟨gb279, 1, none⟩ (.int .i64 t277))) := ⟨by repeat (first | (with_reducible first | exact HB.out | apply below_alloc | apply pw_below_drewN | apply below_drew1 | refine below_set ?_ (IsS113.ge HI260.out) | refine below_set ?_ GE261.out | refine below_set ?_ GE268.out | refine below_set ?_ GE279.out) | exact HB.out)⟩
                          (try clear BK261)
                          (try clear BK268)
                          (try clear BK279)
                          (try clear HI260)
                          (try clear HB)
                          generalize ((w46.setCell ⟨gb279, 0, none⟩ (.string t276)).setCell ⟨gb279, 1, none⟩ (.int .i64 t277)) = w51 at n0_ n1_ n2_ n3_ n4_ ⊢
                          have BK261 := n0_
                          have BK268 := n1_
                          have BK279 := n2_
                          have HI260 := n3_
                          have HB := n4_
                          clear n0_ n1_ n2_ n3_ n4_
                          have n0_ := Aside0.mk (blk_drew BK261.out)
                          have n1_ := Aside0.mk (blk_drew BK268.out)
                          have n2_ := Aside0.mk (blk_drew BK279.out)
                          have n3_ := Aside0.mk (IsS113.drew HI260.out)
                          have n4_ := Aside0.mk (below_drew1 HB.out)
                          clear BK261
                          clear BK268
                          clear BK279
                          clear HI260
                          clear HB
                          have BK261 := n0_
                          have BK268 := n1_
                          have BK279 := n2_
                          have HI260 := n3_
                          have HB := n4_
                          clear n0_ n1_ n2_ n3_ n4_
                          refine start_ (n := 8) (S := fun w' => w'.cell? ⟨gb279, 0, none⟩ = some (.string t276) ∧ w'.cell? ⟨gb279, 1, none⟩ = some (.int .i64 t277)) (ds := []) #[false, false, false, false, false, false, false, false] (by kernel_rfl) rfl rfl ⟨(blk_cell BK279.out 0).trans rfl, (blk_cell BK279.out 1).trans rfl⟩ (fun hHeld => ?_); refine with_tabW crosswaylaw03_OctetReads.tab16 crosswaylaw03_OctetReads.bits16 (fun HT_ HW_ => ?_)
                          generalize w51.drew = w52 at BK261 BK268 BK279 HI260 HB hHeld ⊢
                          refine pure_ (i := 1) (N := some 80) (v := ?_) (a' := ?_) #[false, true, false, false, false, false, false, false] rfl rfl (any_of HT_.out (by kernel_rfl)) (fun _ _ _ h => h) (Or.inl ⟨by rfl, ?_⟩) ?_ ?_
                          rotate_left
                          · intro w'
                            go_simp
                            with_reducible rfl
                          rotate_left
                          · simp only [Act.put, List.setIfInBounds_toArray, List.set_cons_zero, List.set_cons_succ, i64_w, i32_w]
                            rfl
                          refine pure_ (i := 3) (N := some 82) (v := ?_) (a' := ?_) #[false, true, false, true, false, false, false, false] rfl rfl (any_of HT_.out (by kernel_rfl)) (fun _ _ _ h => h) (Or.inl ⟨by rfl, ?_⟩) ?_ ?_
                          rotate_left
                          · intro w'
                            go_simp
                            with_reducible rfl
                          rotate_left
                          · simp only [Act.put, List.setIfInBounds_toArray, List.set_cons_zero, List.set_cons_succ, i64_w, i32_w]
                            rfl
                          refine pure_ (i := 4) (N := some 83) (v := ?_) (a' := ?_) #[false, true, false, true, true, false, false, false] rfl rfl (any_of HT_.out (by kernel_rfl)) (fun _ _ _ h => h) (Or.inl ⟨by rfl, ?_⟩) ?_ ?_
                          rotate_left
                          · intro w'
                            go_simp
                            with_reducible rfl
                          rotate_left
                          · simp only [Act.put, List.setIfInBounds_toArray, List.set_cons_zero, List.set_cons_succ, i64_w, i32_w]
                            rfl
                          refine take_ (i := 0) (N := some 79) (v := ?_) (a' := ?_) #[true, true, false, true, true, false, false, false] rfl rfl (take_ofW HT_.out HW_.out (by kernel_rfl)) (fun _ _ _ h => h) (Or.inl ⟨by rfl, ?_⟩) hHeld ?_ ?_
                          rotate_left
                          · rintro w' ⟨s0, s1⟩
                            go_simp
                            with_reducible rfl
                          rotate_left
                          · simp only [Act.put, List.setIfInBounds_toArray, List.set_cons_zero, List.set_cons_succ, i64_w, i32_w]
                            rfl
                          refine one_ (i := 2) (N := some 81) #[true, true, true, true, true, false, false, false] rfl rfl (one_of HT_.out (by kernel_rfl)) (by decide) (fun K hK => ?_)
                          refine goes_ Try.func33 (by kernel_rfl) rfl #[.pointer (some ⟨g260, 0, none⟩)] (by rfl) rfl rfl (by (try simp only [List.map_toArray, List.map_cons, List.map_nil]); first | done | rfl | (simp only [List.length_drop, List.length_take]; rfl)) ?_
                          with_reducible refine (octet_Reader_U16.calls kj11 g260 x261000_1 x261001_1 t280 t281 t282 w _ ?side1 ?side2 A41.out).mono ?_
                          (case side1 => repeat (first | (with_reducible first | exact HI260.out | apply IsS113.alloc | apply IsS113.drewN | apply IsS113.drew | apply IsS113.set_0 | apply IsS113.set_1 | refine IsS113.far ?_ NB260_261.out _ | refine IsS113.far ?_ NB260_268.out _ | refine IsS113.far ?_ NB260_279.out _) | exact HI260.out))
                          (case side2 => repeat (first | (with_reducible first | exact HB.out | apply below_alloc | apply pw_below_drewN | apply below_drew1 | refine below_set ?_ (IsS113.ge HI260.out) | refine below_set ?_ GE261.out | refine below_set ?_ GE268.out | refine below_set ?_ GE279.out) | exact HB.out))
                          rintro e w53 ⟨rfl, hi, hb, hk⟩
                          refine ⟨_, rfl, ?_⟩
                          have n0_ := Aside0.mk (KeepBut.blk hk (g' := gb261) (o := .cells #[.string x262000_1, .int .i64 x262001_1] 45 (0, 0)) (by (with_reducible repeat (first | refine blk_drewN ?_ _ | refine blk_drew ?_ | refine blk_alloc ?_ _)); exact BK261.out) NB261_260.out (by simp))
                          have n1_ := Aside0.mk (KeepBut.blk hk (g' := gb268) (o := .cells #[.int .i64 ((rd_T47 l1 x8_1).f0), .int .i64 ((rd_T47 l1 x8_1).f1)] 47 (0, 0)) (by (with_reducible repeat (first | refine blk_drewN ?_ _ | refine blk_drew ?_ | refine blk_alloc ?_ _)); exact BK268.out) NB268_260.out (by simp))
                          have n2_ := Aside0.mk (KeepBut.blk hk (g' := gb279) (o := .cells #[.string t276, .int .i64 t277] 45 (0, 0)) (by (with_reducible repeat (first | refine blk_drewN ?_ _ | refine blk_drew ?_ | refine blk_alloc ?_ _)); exact BK279.out) NB279_260.out (by simp))
                          have n3_ := Aside0.mk (hb)
                          have n4_ := Aside0.mk (hi)
                          clear BK261
                          clear BK268
                          clear BK279
                          clear HB
                          clear HI260
                          have BK261 := n0_
                          have BK268 := n1_
                          have BK279 := n2_
                          have HB := n3_
                          have HI260 := n4_
                          clear n0_ n1_ n2_ n3_ n4_
                          (try clear hb)
                          (try clear hb2)
                          (try clear hk)
                          (try clear hi)
                          refine hK.out _ _ ⟨(blk_cell BK279.out 0).trans rfl, (blk_cell BK279.out 1).trans rfl⟩ (fun hHeld => ?_)
                          clear hK K
                          refine norm_ (a' := ?_) ?_ ?_
                          rotate_left
                          · show Act.put _ (some 81) _ = _
                            simp only [Act.put, List.setIfInBounds_toArray, List.set_cons_zero, List.set_cons_succ, i64_w, i32_w]
                            rfl
                          refine pure_ (i := 5) (N := some 84) (v := ?_) (a' := ?_) #[true, true, true, true, true, true, false, false] rfl rfl (any_of HT_.out (by kernel_rfl)) (fun _ _ _ h => h) (Or.inl ⟨by rfl, ?_⟩) ?_ ?_
                          rotate_left
                          · intro w'
                            go_simp
                            with_reducible rfl
                          rotate_left
                          · simp only [Act.put, List.setIfInBounds_toArray, List.set_cons_zero, List.set_cons_succ, i64_w, i32_w]
                            rfl
                          refine one_ (i := 6) (N := none) #[true, true, true, true, true, true, true, false] rfl rfl (one_of HT_.out (by kernel_rfl)) (by decide) (fun K hK => ?_)
                          have hs54 : w53.cell? ⟨gb261, 0, none⟩ = some (.string x262000_1) := (blk_cell BK261.out 0).trans rfl
                          have hfs54 := blk_frozen BK261.out 0
                          have hns54_1 := NB268_261.out
                          have hns54_2 := NB279_261.out
                          have hms54_1 := NB261_268.out
                          have hms54_2 := NB261_279.out
                          have hs55 : w53.cell? ⟨gb261, 1, none⟩ = some (.int .i64 x262001_1) := (blk_cell BK261.out 1).trans rfl
                          have hfs55 := blk_frozen BK261.out 1
                          have hns55_1 := NB268_261.out
                          have hns55_2 := NB279_261.out
                          have hms55_1 := NB261_268.out
                          have hms55_2 := NB261_279.out
                          refine skip_ (w1 := ?_) (by rfl) rfl ?_ ?_
                          rotate_left
                          · go_simp
                            rfl
                          refine hK.out _ _ ⟨((cell_far (p := ⟨gb261, _, none⟩) NB279_261.out _).trans (((cell_far (p := ⟨gb261, _, none⟩) NB279_261.out _).trans (hHeld.1)))), ((cell_far (p := ⟨gb261, _, none⟩) NB279_261.out _).trans (((cell_far (p := ⟨gb261, _, none⟩) NB279_261.out _).trans (hHeld.2))))⟩ (fun hHeld => ?_)
                          clear hK K
                          refine pure_ (i := 7) (N := some 9) (v := ?_) (a' := ?_) #[true, true, true, true, true, true, true, true] rfl rfl (any_of HT_.out (by kernel_rfl)) (fun _ _ _ h => h) (Or.inl ⟨by rfl, ?_⟩) ?_ ?_
                          rotate_left
                          · intro w'
                            go_simp
                            with_reducible rfl
                          rotate_left
                          · simp only [Act.put, List.setIfInBounds_toArray, List.set_cons_zero, List.set_cons_succ, i64_w, i32_w]
                            rfl
                          refine done_ (done_of HT_.out (by kernel_rfl)) ?_
                          try go_wp2
                          go_meet
                          case rel => exact ⟨_, ((t280 == (wrap64 (t278)))), (t281), (t282), (t276), (t277), (by first | rfl | (simp; done) | (simp [*]; done)), H', ⟨by have := HK1.out; have := HJ11.out; first | omega | exact Nat.le_refl _⟩, ⟨by (with_reducible repeat (first | refine blk_drewN ?_ _ | refine blk_drew ?_ | refine blk_alloc ?_ _)); refine blk_put (cs := #[.string t276, .int .i64 x262001_1]) ?_ 1 _ rfl; (with_reducible repeat (first | refine blk_drewN ?_ _ | refine blk_drew ?_ | refine blk_alloc ?_ _)); refine blk_put (cs := #[.string x262000_1, .int .i64 x262001_1]) ?_ 0 _ rfl; (with_reducible repeat (first | refine blk_drewN ?_ _ | refine blk_drew ?_ | refine blk_alloc ?_ _)); exact BK261.out⟩, ⟨by (with_reducible repeat (first | refine blk_drewN ?_ _ | refine blk_drew ?_ | refine blk_alloc ?_ _)); refine blk_far ?_ NB268_261.out _; (with_reducible repeat (first | refine blk_drewN ?_ _ | refine blk_drew ?_ | refine blk_alloc ?_ _)); refine blk_far ?_ NB268_261.out _; (with_reducible repeat (first | refine blk_drewN ?_ _ | refine blk_drew ?_ | refine blk_alloc ?_ _)); exact BK268.out⟩, ⟨by repeat (first | (with_reducible first | exact HI260.out | apply IsS113.alloc | apply IsS113.drewN | apply IsS113.drew | apply IsS113.set_0 | apply IsS113.set_1 | refine IsS113.far ?_ NB260_261.out _ | refine IsS113.far ?_ NB260_268.out _ | refine IsS113.far ?_ NB260_279.out _) | exact HI260.out)⟩, ⟨by repeat (first | (with_reducible first | exact HB.out | apply below_alloc | apply pw_below_drewN | apply below_drew1 | refine below_set ?_ (IsS113.ge HI260.out) | refine below_set ?_ GE261.out | refine below_set ?_ GE268.out | refine below_set ?_ GE279.out) | exact HB.out)⟩⟩
                        · rw [if_neg c39] at H
                          have c39b0 : ((Go.bits .and .i64 ((rd_T47 l1 x8_1).f0) 7) == 1) = false := beq_eq_false_iff_ne.mpr c39
                          have c39b1 : ((Go.bits .and .i64 ((rd_T47 l1 x8_1).f0) 7) != 1) = true := bne_iff_ne.mpr c39
                          by_cases c56 : (Go.bits .and .i64 ((rd_T47 l1 x8_1).f0) 7) = 2
                          · rw [if_pos c56] at H
                            have c56b0 : ((Go.bits .and .i64 ((rd_T47 l1 x8_1).f0) 7) == 2) = true := beq_iff_eq.mpr c56
                            have c56b1 : ((Go.bits .and .i64 ((rd_T47 l1 x8_1).f0) 7) != 2) = false := bne_eq_false_iff_eq.mpr c56
                            clear c56
                            replace H := Option.bind_eq_some_iff.mp H
                            obtain ⟨⟨t283, t284, t285⟩, A570, H⟩ := H
                            replace H : ((octet_Reader_U32.f kj11 x261000_1 x261001_1).bind fun bt287 => (crosswaylaw03_OctetReads.j2 kj11 l1 x8_1 (bt287.1 == ((t285) % 4294967296)) bt287.2.1 bt287.2.2 t283 t284)) = some r := H
                            have A57 := Aside0.mk A570
                            clear A570
                            replace H := Option.bind_eq_some_iff.mp H
                            obtain ⟨⟨t287, t288, t289⟩, A580, H⟩ := H
                            replace H : (crosswaylaw03_OctetReads.j2 kj11 l1 x8_1 (t287 == ((t285) % 4294967296)) t288 t289 t283 t284) = some r := H
                            have A58 := Aside0.mk A580
                            clear A580
                            have H' := Aside0.mk H
                            clear H
                            have hnb59 := NB261_268.out
                            have hnc59 := NB268_261.out
                            have hnb60 := NB261_260.out
                            have hnc60 := NB260_261.out
                            have hcz61_0 : w18.cell? ⟨gb261, 0, none⟩ = some (.string x262000_1) := (blk_cell BK261.out 0).trans rfl
                            have hcz61_1 : w18.cell? ⟨gb261, 1, none⟩ = some (.int .i64 x262001_1) := (blk_cell BK261.out 1).trans rfl
                            have hfz61_0 := blk_frozen BK261.out 0
                            have hfz61_1 := blk_frozen BK261.out 1
                            try go_wp2_with (first | ((with_reducible refine gate_callee (f := 31) rfl ?_); refine goesL_ (some 89) rfl rfl Try.func31 (by kernel_rfl) rfl #[.agg #[.string x262000_1, .int .i64 x262001_1], .int .i64 4] rfl (by (try simp only [List.map_toArray, List.map_cons, List.map_nil]); first | done | rfl | (simp only [List.length_drop, List.length_take]; rfl)) ?_; (with_reducible refine (crosswayref03_R_Num.calls kj11 x262000_1 x262001_1 4 t283 t284 t285 _ A57.out).mono ?_); rintro e w62 ⟨rfl, hb⟩; refine ⟨_, rfl, ?_⟩; have n0_ := Aside0.mk (blk_below (g := gb261) (o := .cells #[.string x262000_1, .int .i64 x262001_1] 45 (0, 0)) (by (with_reducible repeat (first | refine blk_drewN ?_ _ | refine blk_drew ?_ | refine blk_alloc ?_ _)); refine blk_far ?_ NB261_268.out _; (with_reducible repeat (first | refine blk_drewN ?_ _ | refine blk_drew ?_ | refine blk_alloc ?_ _)); refine blk_far ?_ NB261_268.out _; (with_reducible repeat (first | refine blk_drewN ?_ _ | refine blk_drew ?_ | refine blk_alloc ?_ _)); exact BK261.out) hb); have n1_ := Aside0.mk (IsS113.below (show IsS113 w ((w18.setCell ⟨gb268, 0, none⟩ (.int .i64 ((rd_T47 l1 x8_1).f0))).setCell ⟨gb268, 1, none⟩ (.int .i64 ((rd_T47 l1 x8_1).f1))) g260 x261000_1 x261001_1 from by repeat (first | (with_reducible first | exact HI260.out | apply IsS113.alloc | apply IsS113.drewN | apply IsS113.drew | apply IsS113.set_0 | apply IsS113.set_1 | refine IsS113.far ?_ NB260_261.out _ | refine IsS113.far ?_ NB260_268.out _) | exact HI260.out)) hb); have n2_ := Aside0.mk (blk_below (g := gb268) (o := .cells #[.int .i64 ((rd_T47 l1 x8_1).f0), .int .i64 ((rd_T47 l1 x8_1).f1)] 47 (0, 0)) (by (with_reducible repeat (first | refine blk_drewN ?_ _ | refine blk_drew ?_ | refine blk_alloc ?_ _)); refine blk_put (cs := #[.int .i64 ((rd_T47 l1 x8_1).f0), .int .i64 0]) ?_ 1 _ rfl; (with_reducible repeat (first | refine blk_drewN ?_ _ | refine blk_drew ?_ | refine blk_alloc ?_ _)); refine blk_put (cs := #[.int .i64 0, .int .i64 0]) ?_ 0 _ rfl; (with_reducible repeat (first | refine blk_drewN ?_ _ | refine blk_drew ?_ | refine blk_alloc ?_ _)); exact BK268.out) hb); have n3_ := Aside0.mk (below_step (by repeat (first | (with_reducible first | exact HB.out | apply below_alloc | apply pw_below_drewN | apply below_drew1 | refine below_set ?_ (IsS113.ge HI260.out) | refine below_set ?_ GE261.out | refine below_set ?_ GE268.out) | exact HB.out)) hb); clear BK261; clear HI260; clear BK268; clear HB; have BK261 := n0_; have HI260 := n1_; have BK268 := n2_; have HB := n3_; clear n0_ n1_ n2_ n3_; (try clear hb); (try clear hb2); (try clear hk); (try clear hi)) | ((with_reducible refine gate_dst (N := 15) rfl ?_); (try (refine gate_guard (by rfl) ?_; dsimp only)); refine box_event ?hg (N := 15) ?hd (cs := #[.string (⟨#[]⟩ : ByteArray), .int .i64 0]) (t := 45) ?hr ?_; (case hd => rfl); (case hg => rfl); (case hr => first | (go_simp; done) | (go_simp; rfl)); intro gb286 hg w63 hbox hb; have n0_ := Aside0.mk (blk_below (g := gb261) (o := .cells #[.string x262000_1, .int .i64 x262001_1] 45 (0, 0)) (by (with_reducible repeat (first | refine blk_drewN ?_ _ | refine blk_drew ?_ | refine blk_alloc ?_ _)); exact BK261.out) hb); have n1_ := Aside0.mk (IsS113.below (by repeat (first | (with_reducible first | exact HI260.out | apply IsS113.alloc | apply IsS113.drewN | apply IsS113.drew | apply IsS113.set_0 | apply IsS113.set_1 | refine IsS113.far ?_ NB260_261.out _ | refine IsS113.far ?_ NB260_268.out _) | exact HI260.out)) hb); have n2_ := Aside0.mk (blk_below (g := gb268) (o := .cells #[.int .i64 ((rd_T47 l1 x8_1).f0), .int .i64 ((rd_T47 l1 x8_1).f1)] 47 (0, 0)) (by (with_reducible repeat (first | refine blk_drewN ?_ _ | refine blk_drew ?_ | refine blk_alloc ?_ _)); exact BK268.out) hb); have n3_ := Aside0.mk (below_step (by repeat (first | (with_reducible first | exact HB.out | apply below_alloc | apply pw_below_drewN | apply below_drew1 | refine below_set ?_ (IsS113.ge HI260.out) | refine below_set ?_ GE261.out | refine below_set ?_ GE268.out) | exact HB.out)) hb); have n4_ := Aside0.mk (hbox); have n5_ := Aside0.mk ((by rw [hg]; exact (below_size (by repeat (first | (with_reducible first | exact HB.out | apply below_alloc | apply pw_below_drewN | apply below_drew1 | refine below_set ?_ (IsS113.ge HI260.out) | refine below_set ?_ GE261.out | refine below_set ?_ GE268.out) | exact HB.out))) : w.heap.size ≤ gb286)); have n6_ := Aside0.mk ((by rw [hg]; exact (below_size (by repeat (first | (with_reducible first | exact HB.out | apply below_alloc | apply pw_below_drewN | apply below_drew1 | refine below_set ?_ (IsS113.ge HI260.out) | refine below_set ?_ GE261.out | refine below_set ?_ GE268.out) | exact HB.out))) : w.heap.size ≤ gb286)); have n7_ := Aside0.mk ((by rw [hg]; exact Nat.ne_of_lt (blk_lt (g := gb261) (o := .cells #[.string x262000_1, .int .i64 x262001_1] 45 (0, 0)) (by (with_reducible repeat (first | refine blk_drewN ?_ _ | refine blk_drew ?_ | refine blk_alloc ?_ _)); exact BK261.out)) : gb261 ≠ gb286)); have n8_ := Aside0.mk ((by rw [hg]; exact Nat.ne_of_gt (blk_lt (g := gb261) (o := .cells #[.string x262000_1, .int .i64 x262001_1] 45 (0, 0)) (by (with_reducible repeat (first | refine blk_drewN ?_ _ | refine blk_drew ?_ | refine blk_alloc ?_ _)); exact BK261.out)) : gb286 ≠ gb261)); have n9_ := Aside0.mk ((by rw [hg]; exact Nat.ne_of_lt (blk_lt (g := gb268) (o := .cells #[.int .i64 ((rd_T47 l1 x8_1).f0), .int .i64 ((rd_T47 l1 x8_1).f1)] 47 (0, 0)) (by (with_reducible repeat (first | refine blk_drewN ?_ _ | refine blk_drew ?_ | refine blk_alloc ?_ _)); exact BK268.out)) : gb268 ≠ gb286)); have n10_ := Aside0.mk ((by rw [hg]; exact Nat.ne_of_gt (blk_lt (g := gb268) (o := .cells #[.int .i64 ((rd_T47 l1 x8_1).f0), .int .i64 ((rd_T47 l1 x8_1).f1)] 47 (0, 0)) (by (with_reducible repeat (first | refine blk_drewN ?_ _ | refine blk_drew ?_ | refine blk_alloc ?_ _)); exact BK268.out)) : gb286 ≠ gb268)); have n11_ := Aside0.mk ((by rw [hg]; exact Nat.ne_of_lt (IsS113.lt (show IsS113 w _ g260 x261000_1 x261001_1 from by repeat (first | (with_reducible first | exact HI260.out | apply IsS113.alloc | apply IsS113.drewN | apply IsS113.drew | apply IsS113.set_0 | apply IsS113.set_1 | refine IsS113.far ?_ NB260_261.out _ | refine IsS113.far ?_ NB260_268.out _) | exact HI260.out))) : g260 ≠ gb286)); have n12_ := Aside0.mk ((by rw [hg]; exact Nat.ne_of_gt (IsS113.lt (show IsS113 w _ g260 x261000_1 x261001_1 from by repeat (first | (with_reducible first | exact HI260.out | apply IsS113.alloc | apply IsS113.drewN | apply IsS113.drew | apply IsS113.set_0 | apply IsS113.set_1 | refine IsS113.far ?_ NB260_261.out _ | refine IsS113.far ?_ NB260_268.out _) | exact HI260.out))) : gb286 ≠ g260)); clear BK261; clear HI260; clear BK268; clear HB; have BK261 := n0_; have HI260 := n1_; have BK268 := n2_; have HB := n3_; have BK286 := n4_; have GW286 := n5_; have GE286 := n6_; have NB261_286 := n7_; have NB286_261 := n8_; have NB268_286 := n9_; have NB286_268 := n10_; have NB260_286 := n11_; have NB286_260 := n12_; clear n0_ n1_ n2_ n3_ n4_ n5_ n6_ n7_ n8_ n9_ n10_ n11_ n12_; clear hb hbox hg; have hnb64 := NB286_261.out; have hnc64 := NB261_286.out; have hnb65 := NB286_268.out; have hnc65 := NB268_286.out; have hnb66 := NB286_260.out; have hnc66 := NB260_286.out; have hcz67_0 : w63.cell? ⟨gb286, 0, none⟩ = some (.string (⟨#[]⟩ : ByteArray)) := (blk_cell BK286.out 0).trans rfl; have hcz67_1 : w63.cell? ⟨gb286, 1, none⟩ = some (.int .i64 0) := (blk_cell BK286.out 1).trans rfl; have hfz67_0 := blk_frozen BK286.out 0; have hfz67_1 := blk_frozen BK286.out 1))
                            have n0_ : Aside0 (((w63.setCell ⟨gb286, 0, none⟩ (.string t283)).setCell ⟨gb286, 1, none⟩ (.int .i64 t284)).heap[gb261]? = some (.cells #[.string x262000_1, .int .i64 x262001_1] 45 (0, 0))) := ⟨by (with_reducible repeat (first | refine blk_drewN ?_ _ | refine blk_drew ?_ | refine blk_alloc ?_ _)); refine blk_far ?_ NB261_286.out _; (with_reducible repeat (first | refine blk_drewN ?_ _ | refine blk_drew ?_ | refine blk_alloc ?_ _)); refine blk_far ?_ NB261_286.out _; (with_reducible repeat (first | refine blk_drewN ?_ _ | refine blk_drew ?_ | refine blk_alloc ?_ _)); exact BK261.out⟩
                            have n1_ : Aside0 (((w63.setCell ⟨gb286, 0, none⟩ (.string t283)).setCell ⟨gb286, 1, none⟩ (.int .i64 t284)).heap[gb268]? = some (.cells #[.int .i64 ((rd_T47 l1 x8_1).f0), .int .i64 ((rd_T47 l1 x8_1).f1)] 47 (0, 0))) := ⟨by (with_reducible repeat (first | refine blk_drewN ?_ _ | refine blk_drew ?_ | refine blk_alloc ?_ _)); refine blk_far ?_ NB268_286.out _; (with_reducible repeat (first | refine blk_drewN ?_ _ | refine blk_drew ?_ | refine blk_alloc ?_ _)); refine blk_far ?_ NB268_286.out _; (with_reducible repeat (first | refine blk_drewN ?_ _ | refine blk_drew ?_ | refine blk_alloc ?_ _)); exact BK268.out⟩
                            have n2_ : Aside0 (((w63.setCell ⟨gb286, 0, none⟩ (.string t283)).setCell ⟨gb286, 1, none⟩ (.int .i64 t284)).heap[gb286]? = some (.cells #[.string t283, .int .i64 t284] 45 (0, 0))) := ⟨by (with_reducible repeat (first | refine blk_drewN ?_ _ | refine blk_drew ?_ | refine blk_alloc ?_ _)); refine blk_put (cs := #[.string t283, .int .i64 0]) ?_ 1 _ rfl; (with_reducible repeat (first | refine blk_drewN ?_ _ | refine blk_drew ?_ | refine blk_alloc ?_ _)); refine blk_put (cs := #[.string (⟨#[]⟩ : ByteArray), .int .i64 0]) ?_ 0 _ rfl; (with_reducible repeat (first | refine blk_drewN ?_ _ | refine blk_drew ?_ | refine blk_alloc ?_ _)); exact BK286.out⟩
                            have n3_ : Aside0 (IsS113 w ((w63.setCell ⟨gb286, 0, none⟩ (.string t283)).setCell ⟨gb286, 1, none⟩ (.int .i64 t284)) g260 x261000_1 x261001_1) := ⟨by repeat (first | (with_reducible first | exact HI260.out | apply IsS113.alloc | apply IsS113.drewN | apply IsS113.drew | apply IsS113.set_0 | apply IsS113.set_1 | refine IsS113.far ?_ NB260_261.out _ | refine IsS113.far ?_ NB260_268.out _ | refine IsS113.far ?_ NB260_286.out _) | exact HI260.out)⟩
                            have n4_ : Aside0 (Below w.heap.size w ((w63.setCell ⟨gb286, 0, none⟩ (.string t283)).setCell ⟨gb286, 1, none⟩ (.int .i64 t284))) := ⟨by repeat (first | (with_reducible first | exact HB.out | apply below_alloc | apply pw_below_drewN | apply below_drew1 | refine below_set ?_ (IsS113.ge HI260.out) | refine below_set ?_ GE261.out | refine below_set ?_ GE268.out | refine below_set ?_ GE286.out) | exact HB.out)⟩
                            (try clear BK261)
                            (try clear BK268)
                            (try clear BK286)
                            (try clear HI260)
                            (try clear HB)
                            generalize ((w63.setCell ⟨gb286, 0, none⟩ (.string t283)).setCell ⟨gb286, 1, none⟩ (.int .i64 t284)) = w68 at n0_ n1_ n2_ n3_ n4_ ⊢
                            have BK261 := n0_
                            have BK268 := n1_
                            have BK286 := n2_
                            have HI260 := n3_
                            have HB := n4_
                            clear n0_ n1_ n2_ n3_ n4_
                            have n0_ := Aside0.mk (blk_drew BK261.out)
                            have n1_ := Aside0.mk (blk_drew BK268.out)
                            have n2_ := Aside0.mk (blk_drew BK286.out)
                            have n3_ := Aside0.mk (IsS113.drew HI260.out)
                            have n4_ := Aside0.mk (below_drew1 HB.out)
                            clear BK261
                            clear BK268
                            clear BK286
                            clear HI260
                            clear HB
                            have BK261 := n0_
                            have BK268 := n1_
                            have BK286 := n2_
                            have HI260 := n3_
                            have HB := n4_
                            clear n0_ n1_ n2_ n3_ n4_
                            refine start_ (n := 8) (S := fun w' => w'.cell? ⟨gb286, 0, none⟩ = some (.string t283) ∧ w'.cell? ⟨gb286, 1, none⟩ = some (.int .i64 t284)) (ds := []) #[false, false, false, false, false, false, false, false] (by kernel_rfl) rfl rfl ⟨(blk_cell BK286.out 0).trans rfl, (blk_cell BK286.out 1).trans rfl⟩ (fun hHeld => ?_); refine with_tabW crosswaylaw03_OctetReads.tab19 crosswaylaw03_OctetReads.bits19 (fun HT_ HW_ => ?_)
                            generalize w68.drew = w69 at BK261 BK268 BK286 HI260 HB hHeld ⊢
                            refine pure_ (i := 1) (N := some 93) (v := ?_) (a' := ?_) #[false, true, false, false, false, false, false, false] rfl rfl (any_of HT_.out (by kernel_rfl)) (fun _ _ _ h => h) (Or.inl ⟨by rfl, ?_⟩) ?_ ?_
                            rotate_left
                            · intro w'
                              go_simp
                              with_reducible rfl
                            rotate_left
                            · simp only [Act.put, List.setIfInBounds_toArray, List.set_cons_zero, List.set_cons_succ, i64_w, i32_w]
                              rfl
                            refine pure_ (i := 3) (N := some 95) (v := ?_) (a' := ?_) #[false, true, false, true, false, false, false, false] rfl rfl (any_of HT_.out (by kernel_rfl)) (fun _ _ _ h => h) (Or.inl ⟨by rfl, ?_⟩) ?_ ?_
                            rotate_left
                            · intro w'
                              go_simp
                              with_reducible rfl
                            rotate_left
                            · simp only [Act.put, List.setIfInBounds_toArray, List.set_cons_zero, List.set_cons_succ, i64_w, i32_w]
                              rfl
                            refine pure_ (i := 4) (N := some 96) (v := ?_) (a' := ?_) #[false, true, false, true, true, false, false, false] rfl rfl (any_of HT_.out (by kernel_rfl)) (fun _ _ _ h => h) (Or.inl ⟨by rfl, ?_⟩) ?_ ?_
                            rotate_left
                            · intro w'
                              go_simp
                              with_reducible rfl
                            rotate_left
                            · simp only [Act.put, List.setIfInBounds_toArray, List.set_cons_zero, List.set_cons_succ, i64_w, i32_w]
                              rfl
                            refine take_ (i := 0) (N := some 92) (v := ?_) (a' := ?_) #[true, true, false, true, true, false, false, false] rfl rfl (take_ofW HT_.out HW_.out (by kernel_rfl)) (fun _ _ _ h => h) (Or.inl ⟨by rfl, ?_⟩) hHeld ?_ ?_
                            rotate_left
                            · rintro w' ⟨s0, s1⟩
                              go_simp
                              with_reducible rfl
                            rotate_left
                            · simp only [Act.put, List.setIfInBounds_toArray, List.set_cons_zero, List.set_cons_succ, i64_w, i32_w]
                              rfl
                            refine one_ (i := 2) (N := some 94) #[true, true, true, true, true, false, false, false] rfl rfl (one_of HT_.out (by kernel_rfl)) (by decide) (fun K hK => ?_)
                            refine goes_ Try.func34 (by kernel_rfl) rfl #[.pointer (some ⟨g260, 0, none⟩)] (by rfl) rfl rfl (by (try simp only [List.map_toArray, List.map_cons, List.map_nil]); first | done | rfl | (simp only [List.length_drop, List.length_take]; rfl)) ?_
                            with_reducible refine (octet_Reader_U32.calls kj11 g260 x261000_1 x261001_1 t287 t288 t289 w _ ?side1 ?side2 A58.out).mono ?_
                            (case side1 => repeat (first | (with_reducible first | exact HI260.out | apply IsS113.alloc | apply IsS113.drewN | apply IsS113.drew | apply IsS113.set_0 | apply IsS113.set_1 | refine IsS113.far ?_ NB260_261.out _ | refine IsS113.far ?_ NB260_268.out _ | refine IsS113.far ?_ NB260_286.out _) | exact HI260.out))
                            (case side2 => repeat (first | (with_reducible first | exact HB.out | apply below_alloc | apply pw_below_drewN | apply below_drew1 | refine below_set ?_ (IsS113.ge HI260.out) | refine below_set ?_ GE261.out | refine below_set ?_ GE268.out | refine below_set ?_ GE286.out) | exact HB.out))
                            rintro e w70 ⟨rfl, hi, hb, hk⟩
                            refine ⟨_, rfl, ?_⟩
                            have n0_ := Aside0.mk (KeepBut.blk hk (g' := gb261) (o := .cells #[.string x262000_1, .int .i64 x262001_1] 45 (0, 0)) (by (with_reducible repeat (first | refine blk_drewN ?_ _ | refine blk_drew ?_ | refine blk_alloc ?_ _)); exact BK261.out) NB261_260.out (by simp))
                            have n1_ := Aside0.mk (KeepBut.blk hk (g' := gb268) (o := .cells #[.int .i64 ((rd_T47 l1 x8_1).f0), .int .i64 ((rd_T47 l1 x8_1).f1)] 47 (0, 0)) (by (with_reducible repeat (first | refine blk_drewN ?_ _ | refine blk_drew ?_ | refine blk_alloc ?_ _)); exact BK268.out) NB268_260.out (by simp))
                            have n2_ := Aside0.mk (KeepBut.blk hk (g' := gb286) (o := .cells #[.string t283, .int .i64 t284] 45 (0, 0)) (by (with_reducible repeat (first | refine blk_drewN ?_ _ | refine blk_drew ?_ | refine blk_alloc ?_ _)); exact BK286.out) NB286_260.out (by simp))
                            have n3_ := Aside0.mk (hb)
                            have n4_ := Aside0.mk (hi)
                            clear BK261
                            clear BK268
                            clear BK286
                            clear HB
                            clear HI260
                            have BK261 := n0_
                            have BK268 := n1_
                            have BK286 := n2_
                            have HB := n3_
                            have HI260 := n4_
                            clear n0_ n1_ n2_ n3_ n4_
                            (try clear hb)
                            (try clear hb2)
                            (try clear hk)
                            (try clear hi)
                            refine hK.out _ _ ⟨(blk_cell BK286.out 0).trans rfl, (blk_cell BK286.out 1).trans rfl⟩ (fun hHeld => ?_)
                            clear hK K
                            refine norm_ (a' := ?_) ?_ ?_
                            rotate_left
                            · show Act.put _ (some 94) _ = _
                              simp only [Act.put, List.setIfInBounds_toArray, List.set_cons_zero, List.set_cons_succ, i64_w, i32_w]
                              rfl
                            refine pure_ (i := 5) (N := some 97) (v := ?_) (a' := ?_) #[true, true, true, true, true, true, false, false] rfl rfl (any_of HT_.out (by kernel_rfl)) (fun _ _ _ h => h) (Or.inl ⟨by rfl, ?_⟩) ?_ ?_
                            rotate_left
                            · intro w'
                              go_simp
                              with_reducible rfl
                            rotate_left
                            · simp only [Act.put, List.setIfInBounds_toArray, List.set_cons_zero, List.set_cons_succ, i64_w, i32_w]
                              rfl
                            refine one_ (i := 6) (N := none) #[true, true, true, true, true, true, true, false] rfl rfl (one_of HT_.out (by kernel_rfl)) (by decide) (fun K hK => ?_)
                            have hs71 : w70.cell? ⟨gb261, 0, none⟩ = some (.string x262000_1) := (blk_cell BK261.out 0).trans rfl
                            have hfs71 := blk_frozen BK261.out 0
                            have hns71_1 := NB268_261.out
                            have hns71_2 := NB286_261.out
                            have hms71_1 := NB261_268.out
                            have hms71_2 := NB261_286.out
                            have hs72 : w70.cell? ⟨gb261, 1, none⟩ = some (.int .i64 x262001_1) := (blk_cell BK261.out 1).trans rfl
                            have hfs72 := blk_frozen BK261.out 1
                            have hns72_1 := NB268_261.out
                            have hns72_2 := NB286_261.out
                            have hms72_1 := NB261_268.out
                            have hms72_2 := NB261_286.out
                            refine skip_ (w1 := ?_) (by rfl) rfl ?_ ?_
                            rotate_left
                            · go_simp
                              rfl
                            refine hK.out _ _ ⟨((cell_far (p := ⟨gb261, _, none⟩) NB286_261.out _).trans (((cell_far (p := ⟨gb261, _, none⟩) NB286_261.out _).trans (hHeld.1)))), ((cell_far (p := ⟨gb261, _, none⟩) NB286_261.out _).trans (((cell_far (p := ⟨gb261, _, none⟩) NB286_261.out _).trans (hHeld.2))))⟩ (fun hHeld => ?_)
                            clear hK K
                            refine pure_ (i := 7) (N := some 9) (v := ?_) (a' := ?_) #[true, true, true, true, true, true, true, true] rfl rfl (any_of HT_.out (by kernel_rfl)) (fun _ _ _ h => h) (Or.inl ⟨by rfl, ?_⟩) ?_ ?_
                            rotate_left
                            · intro w'
                              go_simp
                              with_reducible rfl
                            rotate_left
                            · simp only [Act.put, List.setIfInBounds_toArray, List.set_cons_zero, List.set_cons_succ, i64_w, i32_w]
                              rfl
                            refine done_ (done_of HT_.out (by kernel_rfl)) ?_
                            try go_wp2
                            go_meet
                            case rel => exact ⟨_, ((t287 == ((t285) % 4294967296))), (t288), (t289), (t283), (t284), (by first | rfl | (simp; done) | (simp [*]; done)), H', ⟨by have := HK1.out; have := HJ11.out; first | omega | exact Nat.le_refl _⟩, ⟨by (with_reducible repeat (first | refine blk_drewN ?_ _ | refine blk_drew ?_ | refine blk_alloc ?_ _)); refine blk_put (cs := #[.string t283, .int .i64 x262001_1]) ?_ 1 _ rfl; (with_reducible repeat (first | refine blk_drewN ?_ _ | refine blk_drew ?_ | refine blk_alloc ?_ _)); refine blk_put (cs := #[.string x262000_1, .int .i64 x262001_1]) ?_ 0 _ rfl; (with_reducible repeat (first | refine blk_drewN ?_ _ | refine blk_drew ?_ | refine blk_alloc ?_ _)); exact BK261.out⟩, ⟨by (with_reducible repeat (first | refine blk_drewN ?_ _ | refine blk_drew ?_ | refine blk_alloc ?_ _)); refine blk_far ?_ NB268_261.out _; (with_reducible repeat (first | refine blk_drewN ?_ _ | refine blk_drew ?_ | refine blk_alloc ?_ _)); refine blk_far ?_ NB268_261.out _; (with_reducible repeat (first | refine blk_drewN ?_ _ | refine blk_drew ?_ | refine blk_alloc ?_ _)); exact BK268.out⟩, ⟨by repeat (first | (with_reducible first | exact HI260.out | apply IsS113.alloc | apply IsS113.drewN | apply IsS113.drew | apply IsS113.set_0 | apply IsS113.set_1 | refine IsS113.far ?_ NB260_261.out _ | refine IsS113.far ?_ NB260_268.out _ | refine IsS113.far ?_ NB260_286.out _) | exact HI260.out)⟩, ⟨by repeat (first | (with_reducible first | exact HB.out | apply below_alloc | apply pw_below_drewN | apply below_drew1 | refine below_set ?_ (IsS113.ge HI260.out) | refine below_set ?_ GE261.out | refine below_set ?_ GE268.out | refine below_set ?_ GE286.out) | exact HB.out)⟩⟩
                          · rw [if_neg c56] at H
                            have c56b0 : ((Go.bits .and .i64 ((rd_T47 l1 x8_1).f0) 7) == 2) = false := beq_eq_false_iff_ne.mpr c56
                            have c56b1 : ((Go.bits .and .i64 ((rd_T47 l1 x8_1).f0) 7) != 2) = true := bne_iff_ne.mpr c56
                            by_cases c73 : (Go.bits .and .i64 ((rd_T47 l1 x8_1).f0) 7) = 3
                            · rw [if_pos c73] at H
                              have c73b0 : ((Go.bits .and .i64 ((rd_T47 l1 x8_1).f0) 7) == 3) = true := beq_iff_eq.mpr c73
                              have c73b1 : ((Go.bits .and .i64 ((rd_T47 l1 x8_1).f0) 7) != 3) = false := bne_eq_false_iff_eq.mpr c73
                              clear c73
                              replace H := Option.bind_eq_some_iff.mp H
                              obtain ⟨⟨t290, t291, t292⟩, A740, H⟩ := H
                              replace H : ((octet_Reader_U64.f kj11 x261000_1 x261001_1).bind fun bt294 => (crosswaylaw03_OctetReads.j2 kj11 l1 x8_1 (bt294.1 == t292) bt294.2.1 bt294.2.2 t290 t291)) = some r := H
                              have A74 := Aside0.mk A740
                              clear A740
                              replace H := Option.bind_eq_some_iff.mp H
                              obtain ⟨⟨t294, t295, t296⟩, A750, H⟩ := H
                              replace H : (crosswaylaw03_OctetReads.j2 kj11 l1 x8_1 (t294 == t292) t295 t296 t290 t291) = some r := H
                              have A75 := Aside0.mk A750
                              clear A750
                              have H' := Aside0.mk H
                              clear H
                              have hnb76 := NB261_268.out
                              have hnc76 := NB268_261.out
                              have hnb77 := NB261_260.out
                              have hnc77 := NB260_261.out
                              have hcz78_0 : w18.cell? ⟨gb261, 0, none⟩ = some (.string x262000_1) := (blk_cell BK261.out 0).trans rfl
                              have hcz78_1 : w18.cell? ⟨gb261, 1, none⟩ = some (.int .i64 x262001_1) := (blk_cell BK261.out 1).trans rfl
                              have hfz78_0 := blk_frozen BK261.out 0
                              have hfz78_1 := blk_frozen BK261.out 1
                              try go_wp2_with (first | ((with_reducible refine gate_callee (f := 31) rfl ?_); refine goesL_ (some 102) rfl rfl Try.func31 (by kernel_rfl) rfl #[.agg #[.string x262000_1, .int .i64 x262001_1], .int .i64 8] rfl (by (try simp only [List.map_toArray, List.map_cons, List.map_nil]); first | done | rfl | (simp only [List.length_drop, List.length_take]; rfl)) ?_; (with_reducible refine (crosswayref03_R_Num.calls kj11 x262000_1 x262001_1 8 t290 t291 t292 _ A74.out).mono ?_); rintro e w79 ⟨rfl, hb⟩; refine ⟨_, rfl, ?_⟩; have n0_ := Aside0.mk (blk_below (g := gb261) (o := .cells #[.string x262000_1, .int .i64 x262001_1] 45 (0, 0)) (by (with_reducible repeat (first | refine blk_drewN ?_ _ | refine blk_drew ?_ | refine blk_alloc ?_ _)); refine blk_far ?_ NB261_268.out _; (with_reducible repeat (first | refine blk_drewN ?_ _ | refine blk_drew ?_ | refine blk_alloc ?_ _)); refine blk_far ?_ NB261_268.out _; (with_reducible repeat (first | refine blk_drewN ?_ _ | refine blk_drew ?_ | refine blk_alloc ?_ _)); exact BK261.out) hb); have n1_ := Aside0.mk (IsS113.below (show IsS113 w ((w18.setCell ⟨gb268, 0, none⟩ (.int .i64 ((rd_T47 l1 x8_1).f0))).setCell ⟨gb268, 1, none⟩ (.int .i64 ((rd_T47 l1 x8_1).f1))) g260 x261000_1 x261001_1 from by repeat (first | (with_reducible first | exact HI260.out | apply IsS113.alloc | apply IsS113.drewN | apply IsS113.drew | apply IsS113.set_0 | apply IsS113.set_1 | refine IsS113.far ?_ NB260_261.out _ | refine IsS113.far ?_ NB260_268.out _) | exact HI260.out)) hb); have n2_ := Aside0.mk (blk_below (g := gb268) (o := .cells #[.int .i64 ((rd_T47 l1 x8_1).f0), .int .i64 ((rd_T47 l1 x8_1).f1)] 47 (0, 0)) (by (with_reducible repeat (first | refine blk_drewN ?_ _ | refine blk_drew ?_ | refine blk_alloc ?_ _)); refine blk_put (cs := #[.int .i64 ((rd_T47 l1 x8_1).f0), .int .i64 0]) ?_ 1 _ rfl; (with_reducible repeat (first | refine blk_drewN ?_ _ | refine blk_drew ?_ | refine blk_alloc ?_ _)); refine blk_put (cs := #[.int .i64 0, .int .i64 0]) ?_ 0 _ rfl; (with_reducible repeat (first | refine blk_drewN ?_ _ | refine blk_drew ?_ | refine blk_alloc ?_ _)); exact BK268.out) hb); have n3_ := Aside0.mk (below_step (by repeat (first | (with_reducible first | exact HB.out | apply below_alloc | apply pw_below_drewN | apply below_drew1 | refine below_set ?_ (IsS113.ge HI260.out) | refine below_set ?_ GE261.out | refine below_set ?_ GE268.out) | exact HB.out)) hb); clear BK261; clear HI260; clear BK268; clear HB; have BK261 := n0_; have HI260 := n1_; have BK268 := n2_; have HB := n3_; clear n0_ n1_ n2_ n3_; (try clear hb); (try clear hb2); (try clear hk); (try clear hi)) | ((with_reducible refine gate_dst (N := 17) rfl ?_); (try (refine gate_guard (by rfl) ?_; dsimp only)); refine box_event ?hg (N := 17) ?hd (cs := #[.string (⟨#[]⟩ : ByteArray), .int .i64 0]) (t := 45) ?hr ?_; (case hd => rfl); (case hg => rfl); (case hr => first | (go_simp; done) | (go_simp; rfl)); intro gb293 hg w80 hbox hb; have n0_ := Aside0.mk (blk_below (g := gb261) (o := .cells #[.string x262000_1, .int .i64 x262001_1] 45 (0, 0)) (by (with_reducible repeat (first | refine blk_drewN ?_ _ | refine blk_drew ?_ | refine blk_alloc ?_ _)); exact BK261.out) hb); have n1_ := Aside0.mk (IsS113.below (by repeat (first | (with_reducible first | exact HI260.out | apply IsS113.alloc | apply IsS113.drewN | apply IsS113.drew | apply IsS113.set_0 | apply IsS113.set_1 | refine IsS113.far ?_ NB260_261.out _ | refine IsS113.far ?_ NB260_268.out _) | exact HI260.out)) hb); have n2_ := Aside0.mk (blk_below (g := gb268) (o := .cells #[.int .i64 ((rd_T47 l1 x8_1).f0), .int .i64 ((rd_T47 l1 x8_1).f1)] 47 (0, 0)) (by (with_reducible repeat (first | refine blk_drewN ?_ _ | refine blk_drew ?_ | refine blk_alloc ?_ _)); exact BK268.out) hb); have n3_ := Aside0.mk (below_step (by repeat (first | (with_reducible first | exact HB.out | apply below_alloc | apply pw_below_drewN | apply below_drew1 | refine below_set ?_ (IsS113.ge HI260.out) | refine below_set ?_ GE261.out | refine below_set ?_ GE268.out) | exact HB.out)) hb); have n4_ := Aside0.mk (hbox); have n5_ := Aside0.mk ((by rw [hg]; exact (below_size (by repeat (first | (with_reducible first | exact HB.out | apply below_alloc | apply pw_below_drewN | apply below_drew1 | refine below_set ?_ (IsS113.ge HI260.out) | refine below_set ?_ GE261.out | refine below_set ?_ GE268.out) | exact HB.out))) : w.heap.size ≤ gb293)); have n6_ := Aside0.mk ((by rw [hg]; exact (below_size (by repeat (first | (with_reducible first | exact HB.out | apply below_alloc | apply pw_below_drewN | apply below_drew1 | refine below_set ?_ (IsS113.ge HI260.out) | refine below_set ?_ GE261.out | refine below_set ?_ GE268.out) | exact HB.out))) : w.heap.size ≤ gb293)); have n7_ := Aside0.mk ((by rw [hg]; exact Nat.ne_of_lt (blk_lt (g := gb261) (o := .cells #[.string x262000_1, .int .i64 x262001_1] 45 (0, 0)) (by (with_reducible repeat (first | refine blk_drewN ?_ _ | refine blk_drew ?_ | refine blk_alloc ?_ _)); exact BK261.out)) : gb261 ≠ gb293)); have n8_ := Aside0.mk ((by rw [hg]; exact Nat.ne_of_gt (blk_lt (g := gb261) (o := .cells #[.string x262000_1, .int .i64 x262001_1] 45 (0, 0)) (by (with_reducible repeat (first | refine blk_drewN ?_ _ | refine blk_drew ?_ | refine blk_alloc ?_ _)); exact BK261.out)) : gb293 ≠ gb261)); have n9_ := Aside0.mk ((by rw [hg]; exact Nat.ne_of_lt (blk_lt (g := gb268) (o := .cells #[.int .i64 ((rd_T47 l1 x8_1).f0), .int .i64 ((rd_T47 l1 x8_1).f1)] 47 (0, 0)) (by (with_reducible repeat (first | refine blk_drewN ?_ _ | refine blk_drew ?_ | refine blk_alloc ?_ _)); exact BK268.out)) : gb268 ≠ gb293)); have n10_ := Aside0.mk ((by rw [hg]; exact Nat.ne_of_gt (blk_lt (g := gb268) (o := .cells #[.int .i64 ((rd_T47 l1 x8_1).f0), .int .i64 ((rd_T47 l1 x8_1).f1)] 47 (0, 0)) (by (with_reducible repeat (first | refine blk_drewN ?_ _ | refine blk_drew ?_ | refine blk_alloc ?_ _)); exact BK268.out)) : gb293 ≠ gb268)); have n11_ := Aside0.mk ((by rw [hg]; exact Nat.ne_of_lt (IsS113.lt (show IsS113 w _ g260 x261000_1 x261001_1 from by repeat (first | (with_reducible first | exact HI260.out | apply IsS113.alloc | apply IsS113.drewN | apply IsS113.drew | apply IsS113.set_0 | apply IsS113.set_1 | refine IsS113.far ?_ NB260_261.out _ | refine IsS113.far ?_ NB260_268.out _) | exact HI260.out))) : g260 ≠ gb293)); have n12_ := Aside0.mk ((by rw [hg]; exact Nat.ne_of_gt (IsS113.lt (show IsS113 w _ g260 x261000_1 x261001_1 from by repeat (first | (with_reducible first | exact HI260.out | apply IsS113.alloc | apply IsS113.drewN | apply IsS113.drew | apply IsS113.set_0 | apply IsS113.set_1 | refine IsS113.far ?_ NB260_261.out _ | refine IsS113.far ?_ NB260_268.out _) | exact HI260.out))) : gb293 ≠ g260)); clear BK261; clear HI260; clear BK268; clear HB; have BK261 := n0_; have HI260 := n1_; have BK268 := n2_; have HB := n3_; have BK293 := n4_; have GW293 := n5_; have GE293 := n6_; have NB261_293 := n7_; have NB293_261 := n8_; have NB268_293 := n9_; have NB293_268 := n10_; have NB260_293 := n11_; have NB293_260 := n12_; clear n0_ n1_ n2_ n3_ n4_ n5_ n6_ n7_ n8_ n9_ n10_ n11_ n12_; clear hb hbox hg; have hnb81 := NB293_261.out; have hnc81 := NB261_293.out; have hnb82 := NB293_268.out; have hnc82 := NB268_293.out; have hnb83 := NB293_260.out; have hnc83 := NB260_293.out; have hcz84_0 : w80.cell? ⟨gb293, 0, none⟩ = some (.string (⟨#[]⟩ : ByteArray)) := (blk_cell BK293.out 0).trans rfl; have hcz84_1 : w80.cell? ⟨gb293, 1, none⟩ = some (.int .i64 0) := (blk_cell BK293.out 1).trans rfl; have hfz84_0 := blk_frozen BK293.out 0; have hfz84_1 := blk_frozen BK293.out 1))
                              have n0_ : Aside0 (((w80.setCell ⟨gb293, 0, none⟩ (.string t290)).setCell ⟨gb293, 1, none⟩ (.int .i64 t291)).heap[gb261]? = some (.cells #[.string x262000_1, .int .i64 x262001_1] 45 (0, 0))) := ⟨by (with_reducible repeat (first | refine blk_drewN ?_ _ | refine blk_drew ?_ | refine blk_alloc ?_ _)); refine blk_far ?_ NB261_293.out _; (with_reducible repeat (first | refine blk_drewN ?_ _ | refine blk_drew ?_ | refine blk_alloc ?_ _)); refine blk_far ?_ NB261_293.out _; (with_reducible repeat (first | refine blk_drewN ?_ _ | refine blk_drew ?_ | refine blk_alloc ?_ _)); exact BK261.out⟩
                              have n1_ : Aside0 (((w80.setCell ⟨gb293, 0, none⟩ (.string t290)).setCell ⟨gb293, 1, none⟩ (.int .i64 t291)).heap[gb268]? = some (.cells #[.int .i64 ((rd_T47 l1 x8_1).f0), .int .i64 ((rd_T47 l1 x8_1).f1)] 47 (0, 0))) := ⟨by (with_reducible repeat (first | refine blk_drewN ?_ _ | refine blk_drew ?_ | refine blk_alloc ?_ _)); refine blk_far ?_ NB268_293.out _; (with_reducible repeat (first | refine blk_drewN ?_ _ | refine blk_drew ?_ | refine blk_alloc ?_ _)); refine blk_far ?_ NB268_293.out _; (with_reducible repeat (first | refine blk_drewN ?_ _ | refine blk_drew ?_ | refine blk_alloc ?_ _)); exact BK268.out⟩
                              have n2_ : Aside0 (((w80.setCell ⟨gb293, 0, none⟩ (.string t290)).setCell ⟨gb293, 1, none⟩ (.int .i64 t291)).heap[gb293]? = some (.cells #[.string t290, .int .i64 t291] 45 (0, 0))) := ⟨by (with_reducible repeat (first | refine blk_drewN ?_ _ | refine blk_drew ?_ | refine blk_alloc ?_ _)); refine blk_put (cs := #[.string t290, .int .i64 0]) ?_ 1 _ rfl; (with_reducible repeat (first | refine blk_drewN ?_ _ | refine blk_drew ?_ | refine blk_alloc ?_ _)); refine blk_put (cs := #[.string (⟨#[]⟩ : ByteArray), .int .i64 0]) ?_ 0 _ rfl; (with_reducible repeat (first | refine blk_drewN ?_ _ | refine blk_drew ?_ | refine blk_alloc ?_ _)); exact BK293.out⟩
                              have n3_ : Aside0 (IsS113 w ((w80.setCell ⟨gb293, 0, none⟩ (.string t290)).setCell ⟨gb293, 1, none⟩ (.int .i64 t291)) g260 x261000_1 x261001_1) := ⟨by repeat (first | (with_reducible first | exact HI260.out | apply IsS113.alloc | apply IsS113.drewN | apply IsS113.drew | apply IsS113.set_0 | apply IsS113.set_1 | refine IsS113.far ?_ NB260_261.out _ | refine IsS113.far ?_ NB260_268.out _ | refine IsS113.far ?_ NB260_293.out _) | exact HI260.out)⟩
                              have n4_ : Aside0 (Below w.heap.size w ((w80.setCell ⟨gb293, 0, none⟩ (.string t290)).setCell ⟨gb293, 1, none⟩ (.int .i64 t291))) := ⟨by repeat (first | (with_reducible first | exact HB.out | apply below_alloc | apply pw_below_drewN | apply below_drew1 | refine below_set ?_ (IsS113.ge HI260.out) | refine below_set ?_ GE261.out | refine below_set ?_ GE268.out | refine below_set ?_ GE293.out) | exact HB.out)⟩
                              (try clear BK261)
                              (try clear BK268)
                              (try clear BK293)
                              (try clear HI260)
                              (try clear HB)
                              generalize ((w80.setCell ⟨gb293, 0, none⟩ (.string t290)).setCell ⟨gb293, 1, none⟩ (.int .i64 t291)) = w85 at n0_ n1_ n2_ n3_ n4_ ⊢
                              have BK261 := n0_
                              have BK268 := n1_
                              have BK293 := n2_
                              have HI260 := n3_
                              have HB := n4_
                              clear n0_ n1_ n2_ n3_ n4_
                              have n0_ := Aside0.mk (blk_drew BK261.out)
                              have n1_ := Aside0.mk (blk_drew BK268.out)
                              have n2_ := Aside0.mk (blk_drew BK293.out)
                              have n3_ := Aside0.mk (IsS113.drew HI260.out)
                              have n4_ := Aside0.mk (below_drew1 HB.out)
                              clear BK261
                              clear BK268
                              clear BK293
                              clear HI260
                              clear HB
                              have BK261 := n0_
                              have BK268 := n1_
                              have BK293 := n2_
                              have HI260 := n3_
                              have HB := n4_
                              clear n0_ n1_ n2_ n3_ n4_
                              refine start_ (n := 7) (S := fun w' => w'.cell? ⟨gb293, 0, none⟩ = some (.string t290) ∧ w'.cell? ⟨gb293, 1, none⟩ = some (.int .i64 t291)) (ds := []) #[false, false, false, false, false, false, false] (by kernel_rfl) rfl rfl ⟨(blk_cell BK293.out 0).trans rfl, (blk_cell BK293.out 1).trans rfl⟩ (fun hHeld => ?_)
                              generalize w85.drew = w86 at BK261 BK268 BK293 HI260 HB hHeld ⊢
                              refine pure_ (i := 1) (N := some 106) (v := ?_) (a' := ?_) #[false, true, false, false, false, false, false] rfl rfl (by kernel_rfl) (fun _ _ _ h => h) (Or.inl ⟨by rfl, ?_⟩) ?_ ?_
                              rotate_left
                              · intro w'
                                go_simp
                                with_reducible rfl
                              rotate_left
                              · simp only [Act.put, List.setIfInBounds_toArray, List.set_cons_zero, List.set_cons_succ, i64_w, i32_w]
                                rfl
                              refine pure_ (i := 3) (N := some 108) (v := ?_) (a' := ?_) #[false, true, false, true, false, false, false] rfl rfl (by kernel_rfl) (fun _ _ _ h => h) (Or.inl ⟨by rfl, ?_⟩) ?_ ?_
                              rotate_left
                              · intro w'
                                go_simp
                                with_reducible rfl
                              rotate_left
                              · simp only [Act.put, List.setIfInBounds_toArray, List.set_cons_zero, List.set_cons_succ, i64_w, i32_w]
                                rfl
                              refine take_ (i := 0) (N := some 105) (v := ?_) (a' := ?_) #[true, true, false, true, false, false, false] rfl rfl (by kernel_rfl) (fun _ _ _ h => h) (Or.inl ⟨by rfl, ?_⟩) hHeld ?_ ?_
                              rotate_left
                              · rintro w' ⟨s0, s1⟩
                                go_simp
                                with_reducible rfl
                              rotate_left
                              · simp only [Act.put, List.setIfInBounds_toArray, List.set_cons_zero, List.set_cons_succ, i64_w, i32_w]
                                rfl
                              refine one_ (i := 2) (N := some 107) #[true, true, true, true, false, false, false] rfl rfl (by kernel_rfl) (by decide) (fun K hK => ?_)
                              refine goes_ Try.func35 (by kernel_rfl) rfl #[.pointer (some ⟨g260, 0, none⟩)] (by rfl) rfl rfl (by (try simp only [List.map_toArray, List.map_cons, List.map_nil]); first | done | rfl | (simp only [List.length_drop, List.length_take]; rfl)) ?_
                              with_reducible refine (octet_Reader_U64.calls kj11 g260 x261000_1 x261001_1 t294 t295 t296 w _ ?side1 ?side2 A75.out).mono ?_
                              (case side1 => repeat (first | (with_reducible first | exact HI260.out | apply IsS113.alloc | apply IsS113.drewN | apply IsS113.drew | apply IsS113.set_0 | apply IsS113.set_1 | refine IsS113.far ?_ NB260_261.out _ | refine IsS113.far ?_ NB260_268.out _ | refine IsS113.far ?_ NB260_293.out _) | exact HI260.out))
                              (case side2 => repeat (first | (with_reducible first | exact HB.out | apply below_alloc | apply pw_below_drewN | apply below_drew1 | refine below_set ?_ (IsS113.ge HI260.out) | refine below_set ?_ GE261.out | refine below_set ?_ GE268.out | refine below_set ?_ GE293.out) | exact HB.out))
                              rintro e w87 ⟨rfl, hi, hb, hk⟩
                              refine ⟨_, rfl, ?_⟩
                              have n0_ := Aside0.mk (KeepBut.blk hk (g' := gb261) (o := .cells #[.string x262000_1, .int .i64 x262001_1] 45 (0, 0)) (by (with_reducible repeat (first | refine blk_drewN ?_ _ | refine blk_drew ?_ | refine blk_alloc ?_ _)); exact BK261.out) NB261_260.out (by simp))
                              have n1_ := Aside0.mk (KeepBut.blk hk (g' := gb268) (o := .cells #[.int .i64 ((rd_T47 l1 x8_1).f0), .int .i64 ((rd_T47 l1 x8_1).f1)] 47 (0, 0)) (by (with_reducible repeat (first | refine blk_drewN ?_ _ | refine blk_drew ?_ | refine blk_alloc ?_ _)); exact BK268.out) NB268_260.out (by simp))
                              have n2_ := Aside0.mk (KeepBut.blk hk (g' := gb293) (o := .cells #[.string t290, .int .i64 t291] 45 (0, 0)) (by (with_reducible repeat (first | refine blk_drewN ?_ _ | refine blk_drew ?_ | refine blk_alloc ?_ _)); exact BK293.out) NB293_260.out (by simp))
                              have n3_ := Aside0.mk (hb)
                              have n4_ := Aside0.mk (hi)
                              clear BK261
                              clear BK268
                              clear BK293
                              clear HB
                              clear HI260
                              have BK261 := n0_
                              have BK268 := n1_
                              have BK293 := n2_
                              have HB := n3_
                              have HI260 := n4_
                              clear n0_ n1_ n2_ n3_ n4_
                              (try clear hb)
                              (try clear hb2)
                              (try clear hk)
                              (try clear hi)
                              refine hK.out _ _ ⟨(blk_cell BK293.out 0).trans rfl, (blk_cell BK293.out 1).trans rfl⟩ (fun hHeld => ?_)
                              clear hK K
                              refine norm_ (a' := ?_) ?_ ?_
                              rotate_left
                              · show Act.put _ (some 107) _ = _
                                simp only [Act.put, List.setIfInBounds_toArray, List.set_cons_zero, List.set_cons_succ, i64_w, i32_w]
                                rfl
                              refine pure_ (i := 4) (N := some 109) (v := ?_) (a' := ?_) #[true, true, true, true, true, false, false] rfl rfl (by kernel_rfl) (fun _ _ _ h => h) (Or.inl ⟨by rfl, ?_⟩) ?_ ?_
                              rotate_left
                              · intro w'
                                go_simp
                                with_reducible rfl
                              rotate_left
                              · simp only [Act.put, List.setIfInBounds_toArray, List.set_cons_zero, List.set_cons_succ, i64_w, i32_w]
                                rfl
                              refine one_ (i := 5) (N := none) #[true, true, true, true, true, true, false] rfl rfl (by kernel_rfl) (by decide) (fun K hK => ?_)
                              have hs88 : w87.cell? ⟨gb261, 0, none⟩ = some (.string x262000_1) := (blk_cell BK261.out 0).trans rfl
                              have hfs88 := blk_frozen BK261.out 0
                              have hns88_1 := NB268_261.out
                              have hns88_2 := NB293_261.out
                              have hms88_1 := NB261_268.out
                              have hms88_2 := NB261_293.out
                              have hs89 : w87.cell? ⟨gb261, 1, none⟩ = some (.int .i64 x262001_1) := (blk_cell BK261.out 1).trans rfl
                              have hfs89 := blk_frozen BK261.out 1
                              have hns89_1 := NB268_261.out
                              have hns89_2 := NB293_261.out
                              have hms89_1 := NB261_268.out
                              have hms89_2 := NB261_293.out
                              refine skip_ (w1 := ?_) (by rfl) rfl ?_ ?_
                              rotate_left
                              · go_simp
                                rfl
                              refine hK.out _ _ ⟨((cell_far (p := ⟨gb261, _, none⟩) NB293_261.out _).trans (((cell_far (p := ⟨gb261, _, none⟩) NB293_261.out _).trans (hHeld.1)))), ((cell_far (p := ⟨gb261, _, none⟩) NB293_261.out _).trans (((cell_far (p := ⟨gb261, _, none⟩) NB293_261.out _).trans (hHeld.2))))⟩ (fun hHeld => ?_)
                              clear hK K
                              refine pure_ (i := 6) (N := some 9) (v := ?_) (a' := ?_) #[true, true, true, true, true, true, true] rfl rfl (by kernel_rfl) (fun _ _ _ h => h) (Or.inl ⟨by rfl, ?_⟩) ?_ ?_
                              rotate_left
                              · intro w'
                                go_simp
                                with_reducible rfl
                              rotate_left
                              · simp only [Act.put, List.setIfInBounds_toArray, List.set_cons_zero, List.set_cons_succ, i64_w, i32_w]
                                rfl
                              refine done_ (by kernel_rfl) ?_
                              try go_wp2
                              go_meet
                              case rel => exact ⟨_, ((t294 == t292)), (t295), (t296), (t290), (t291), (by first | rfl | (simp; done) | (simp [*]; done)), H', ⟨by have := HK1.out; have := HJ11.out; first | omega | exact Nat.le_refl _⟩, ⟨by (with_reducible repeat (first | refine blk_drewN ?_ _ | refine blk_drew ?_ | refine blk_alloc ?_ _)); refine blk_put (cs := #[.string t290, .int .i64 x262001_1]) ?_ 1 _ rfl; (with_reducible repeat (first | refine blk_drewN ?_ _ | refine blk_drew ?_ | refine blk_alloc ?_ _)); refine blk_put (cs := #[.string x262000_1, .int .i64 x262001_1]) ?_ 0 _ rfl; (with_reducible repeat (first | refine blk_drewN ?_ _ | refine blk_drew ?_ | refine blk_alloc ?_ _)); exact BK261.out⟩, ⟨by (with_reducible repeat (first | refine blk_drewN ?_ _ | refine blk_drew ?_ | refine blk_alloc ?_ _)); refine blk_far ?_ NB268_261.out _; (with_reducible repeat (first | refine blk_drewN ?_ _ | refine blk_drew ?_ | refine blk_alloc ?_ _)); refine blk_far ?_ NB268_261.out _; (with_reducible repeat (first | refine blk_drewN ?_ _ | refine blk_drew ?_ | refine blk_alloc ?_ _)); exact BK268.out⟩, ⟨by repeat (first | (with_reducible first | exact HI260.out | apply IsS113.alloc | apply IsS113.drewN | apply IsS113.drew | apply IsS113.set_0 | apply IsS113.set_1 | refine IsS113.far ?_ NB260_261.out _ | refine IsS113.far ?_ NB260_268.out _ | refine IsS113.far ?_ NB260_293.out _) | exact HI260.out)⟩, ⟨by repeat (first | (with_reducible first | exact HB.out | apply below_alloc | apply pw_below_drewN | apply below_drew1 | refine below_set ?_ (IsS113.ge HI260.out) | refine below_set ?_ GE261.out | refine below_set ?_ GE268.out | refine below_set ?_ GE293.out) | exact HB.out)⟩⟩
                            · rw [if_neg c73] at H
                              have c73b0 : ((Go.bits .and .i64 ((rd_T47 l1 x8_1).f0) 7) == 3) = false := beq_eq_false_iff_ne.mpr c73
                              have c73b1 : ((Go.bits .and .i64 ((rd_T47 l1 x8_1).f0) 7) != 3) = true := bne_iff_ne.mpr c73
                              by_cases c90 : (Go.bits .and .i64 ((rd_T47 l1 x8_1).f0) 7) = 4
                              · rw [if_pos c90] at H
                                have c90b0 : ((Go.bits .and .i64 ((rd_T47 l1 x8_1).f0) 7) == 4) = true := beq_iff_eq.mpr c90
                                have c90b1 : ((Go.bits .and .i64 ((rd_T47 l1 x8_1).f0) 7) != 4) = false := bne_eq_false_iff_eq.mpr c90
                                clear c90
                                replace H := Option.bind_eq_some_iff.mp H
                                obtain ⟨⟨t297, t298, t299⟩, A910, H⟩ := H
                                replace H : ((octet_Reader_Take.f x261000_1 x261001_1 ((rd_T47 l1 x8_1).f1)).bind fun bt301 => (crosswaylaw03_OctetReads.j2 kj11 l1 x8_1 (bt301.1.toList == t299.toList) bt301.2.1 bt301.2.2 t297 t298)) = some r := H
                                have A91 := Aside0.mk A910
                                clear A910
                                replace H := Option.bind_eq_some_iff.mp H
                                obtain ⟨⟨t301, t302, t303⟩, A920, H⟩ := H
                                replace H : (crosswaylaw03_OctetReads.j2 kj11 l1 x8_1 (t301.toList == t299.toList) t302 t303 t297 t298) = some r := H
                                have A92 := Aside0.mk A920
                                clear A920
                                have H' := Aside0.mk H
                                clear H
                                have hnb93 := NB261_268.out
                                have hnc93 := NB268_261.out
                                have hnb94 := NB261_260.out
                                have hnc94 := NB260_261.out
                                have hcz95_0 : w18.cell? ⟨gb261, 0, none⟩ = some (.string x262000_1) := (blk_cell BK261.out 0).trans rfl
                                have hcz95_1 : w18.cell? ⟨gb261, 1, none⟩ = some (.int .i64 x262001_1) := (blk_cell BK261.out 1).trans rfl
                                have hfz95_0 := blk_frozen BK261.out 0
                                have hfz95_1 := blk_frozen BK261.out 1
                                have hnb96 := NB268_260.out
                                have hnc96 := NB260_268.out
                                have hcz97_0 : w18.cell? ⟨gb268, 0, none⟩ = some (.int .i64 0) := (blk_cell BK268.out 0).trans rfl
                                have hcz97_1 : w18.cell? ⟨gb268, 1, none⟩ = some (.int .i64 0) := (blk_cell BK268.out 1).trans rfl
                                have hfz97_0 := blk_frozen BK268.out 0
                                have hfz97_1 := blk_frozen BK268.out 1
                                try go_wp2_with (first | ((with_reducible refine gate_callee (f := 36) rfl ?_); refine goesL_ (some 116) rfl rfl Try.func36 (by kernel_rfl) rfl #[.agg #[.string x262000_1, .int .i64 x262001_1], .int .i64 ((rd_T47 l1 x8_1).f1)] rfl (by (try simp only [List.map_toArray, List.map_cons, List.map_nil]); first | done | rfl | (simp only [List.length_drop, List.length_take]; rfl)) ?_; (with_reducible refine (crosswayref03_R_Take.calls x262000_1 x262001_1 ((rd_T47 l1 x8_1).f1) t297 t298 t299 _ A91.out).mono ?_); rintro e w98 ⟨rfl, hb⟩; refine ⟨_, rfl, ?_⟩; have n0_ := Aside0.mk (blk_below (g := gb261) (o := .cells #[.string x262000_1, .int .i64 x262001_1] 45 (0, 0)) (by (with_reducible repeat (first | refine blk_drewN ?_ _ | refine blk_drew ?_ | refine blk_alloc ?_ _)); refine blk_far ?_ NB261_268.out _; (with_reducible repeat (first | refine blk_drewN ?_ _ | refine blk_drew ?_ | refine blk_alloc ?_ _)); refine blk_far ?_ NB261_268.out _; (with_reducible repeat (first | refine blk_drewN ?_ _ | refine blk_drew ?_ | refine blk_alloc ?_ _)); exact BK261.out) hb); have n1_ := Aside0.mk (IsS113.below (show IsS113 w ((w18.setCell ⟨gb268, 0, none⟩ (.int .i64 ((rd_T47 l1 x8_1).f0))).setCell ⟨gb268, 1, none⟩ (.int .i64 ((rd_T47 l1 x8_1).f1))) g260 x261000_1 x261001_1 from by repeat (first | (with_reducible first | exact HI260.out | apply IsS113.alloc | apply IsS113.drewN | apply IsS113.drew | apply IsS113.set_0 | apply IsS113.set_1 | refine IsS113.far ?_ NB260_261.out _ | refine IsS113.far ?_ NB260_268.out _) | exact HI260.out)) hb); have n2_ := Aside0.mk (blk_below (g := gb268) (o := .cells #[.int .i64 ((rd_T47 l1 x8_1).f0), .int .i64 ((rd_T47 l1 x8_1).f1)] 47 (0, 0)) (by (with_reducible repeat (first | refine blk_drewN ?_ _ | refine blk_drew ?_ | refine blk_alloc ?_ _)); refine blk_put (cs := #[.int .i64 ((rd_T47 l1 x8_1).f0), .int .i64 0]) ?_ 1 _ rfl; (with_reducible repeat (first | refine blk_drewN ?_ _ | refine blk_drew ?_ | refine blk_alloc ?_ _)); refine blk_put (cs := #[.int .i64 0, .int .i64 0]) ?_ 0 _ rfl; (with_reducible repeat (first | refine blk_drewN ?_ _ | refine blk_drew ?_ | refine blk_alloc ?_ _)); exact BK268.out) hb); have n3_ := Aside0.mk (below_step (by repeat (first | (with_reducible first | exact HB.out | apply below_alloc | apply pw_below_drewN | apply below_drew1 | refine below_set ?_ (IsS113.ge HI260.out) | refine below_set ?_ GE261.out | refine below_set ?_ GE268.out) | exact HB.out)) hb); clear BK261; clear HI260; clear BK268; clear HB; have BK261 := n0_; have HI260 := n1_; have BK268 := n2_; have HB := n3_; clear n0_ n1_ n2_ n3_; (try clear hb); (try clear hb2); (try clear hk); (try clear hi)) | ((with_reducible refine gate_dst (N := 19) rfl ?_); (try (refine gate_guard (by rfl) ?_; dsimp only)); refine box_event ?hg (N := 19) ?hd (cs := #[.string (⟨#[]⟩ : ByteArray), .int .i64 0]) (t := 45) ?hr ?_; (case hd => rfl); (case hg => rfl); (case hr => first | (go_simp; done) | (go_simp; rfl)); intro gb300 hg w99 hbox hb; have n0_ := Aside0.mk (blk_below (g := gb261) (o := .cells #[.string x262000_1, .int .i64 x262001_1] 45 (0, 0)) (by (with_reducible repeat (first | refine blk_drewN ?_ _ | refine blk_drew ?_ | refine blk_alloc ?_ _)); exact BK261.out) hb); have n1_ := Aside0.mk (IsS113.below (by repeat (first | (with_reducible first | exact HI260.out | apply IsS113.alloc | apply IsS113.drewN | apply IsS113.drew | apply IsS113.set_0 | apply IsS113.set_1 | refine IsS113.far ?_ NB260_261.out _ | refine IsS113.far ?_ NB260_268.out _) | exact HI260.out)) hb); have n2_ := Aside0.mk (blk_below (g := gb268) (o := .cells #[.int .i64 ((rd_T47 l1 x8_1).f0), .int .i64 ((rd_T47 l1 x8_1).f1)] 47 (0, 0)) (by (with_reducible repeat (first | refine blk_drewN ?_ _ | refine blk_drew ?_ | refine blk_alloc ?_ _)); exact BK268.out) hb); have n3_ := Aside0.mk (below_step (by repeat (first | (with_reducible first | exact HB.out | apply below_alloc | apply pw_below_drewN | apply below_drew1 | refine below_set ?_ (IsS113.ge HI260.out) | refine below_set ?_ GE261.out | refine below_set ?_ GE268.out) | exact HB.out)) hb); have n4_ := Aside0.mk (hbox); have n5_ := Aside0.mk ((by rw [hg]; exact (below_size (by repeat (first | (with_reducible first | exact HB.out | apply below_alloc | apply pw_below_drewN | apply below_drew1 | refine below_set ?_ (IsS113.ge HI260.out) | refine below_set ?_ GE261.out | refine below_set ?_ GE268.out) | exact HB.out))) : w.heap.size ≤ gb300)); have n6_ := Aside0.mk ((by rw [hg]; exact (below_size (by repeat (first | (with_reducible first | exact HB.out | apply below_alloc | apply pw_below_drewN | apply below_drew1 | refine below_set ?_ (IsS113.ge HI260.out) | refine below_set ?_ GE261.out | refine below_set ?_ GE268.out) | exact HB.out))) : w.heap.size ≤ gb300)); have n7_ := Aside0.mk ((by rw [hg]; exact Nat.ne_of_lt (blk_lt (g := gb261) (o := .cells #[.string x262000_1, .int .i64 x262001_1] 45 (0, 0)) (by (with_reducible repeat (first | refine blk_drewN ?_ _ | refine blk_drew ?_ | refine blk_alloc ?_ _)); exact BK261.out)) : gb261 ≠ gb300)); have n8_ := Aside0.mk ((by rw [hg]; exact Nat.ne_of_gt (blk_lt (g := gb261) (o := .cells #[.string x262000_1, .int .i64 x262001_1] 45 (0, 0)) (by (with_reducible repeat (first | refine blk_drewN ?_ _ | refine blk_drew ?_ | refine blk_alloc ?_ _)); exact BK261.out)) : gb300 ≠ gb261)); have n9_ := Aside0.mk ((by rw [hg]; exact Nat.ne_of_lt (blk_lt (g := gb268) (o := .cells #[.int .i64 ((rd_T47 l1 x8_1).f0), .int .i64 ((rd_T47 l1 x8_1).f1)] 47 (0, 0)) (by (with_reducible repeat (first | refine blk_drewN ?_ _ | refine blk_drew ?_ | refine blk_alloc ?_ _)); exact BK268.out)) : gb268 ≠ gb300)); have n10_ := Aside0.mk ((by rw [hg]; exact Nat.ne_of_gt (blk_lt (g := gb268) (o := .cells #[.int .i64 ((rd_T47 l1 x8_1).f0), .int .i64 ((rd_T47 l1 x8_1).f1)] 47 (0, 0)) (by (with_reducible repeat (first | refine blk_drewN ?_ _ | refine blk_drew ?_ | refine blk_alloc ?_ _)); exact BK268.out)) : gb300 ≠ gb268)); have n11_ := Aside0.mk ((by rw [hg]; exact Nat.ne_of_lt (IsS113.lt (show IsS113 w _ g260 x261000_1 x261001_1 from by repeat (first | (with_reducible first | exact HI260.out | apply IsS113.alloc | apply IsS113.drewN | apply IsS113.drew | apply IsS113.set_0 | apply IsS113.set_1 | refine IsS113.far ?_ NB260_261.out _ | refine IsS113.far ?_ NB260_268.out _) | exact HI260.out))) : g260 ≠ gb300)); have n12_ := Aside0.mk ((by rw [hg]; exact Nat.ne_of_gt (IsS113.lt (show IsS113 w _ g260 x261000_1 x261001_1 from by repeat (first | (with_reducible first | exact HI260.out | apply IsS113.alloc | apply IsS113.drewN | apply IsS113.drew | apply IsS113.set_0 | apply IsS113.set_1 | refine IsS113.far ?_ NB260_261.out _ | refine IsS113.far ?_ NB260_268.out _) | exact HI260.out))) : gb300 ≠ g260)); clear BK261; clear HI260; clear BK268; clear HB; have BK261 := n0_; have HI260 := n1_; have BK268 := n2_; have HB := n3_; have BK300 := n4_; have GW300 := n5_; have GE300 := n6_; have NB261_300 := n7_; have NB300_261 := n8_; have NB268_300 := n9_; have NB300_268 := n10_; have NB260_300 := n11_; have NB300_260 := n12_; clear n0_ n1_ n2_ n3_ n4_ n5_ n6_ n7_ n8_ n9_ n10_ n11_ n12_; clear hb hbox hg; have hnb100 := NB300_261.out; have hnc100 := NB261_300.out; have hnb101 := NB300_268.out; have hnc101 := NB268_300.out; have hnb102 := NB300_260.out; have hnc102 := NB260_300.out; have hcz103_0 : w99.cell? ⟨gb300, 0, none⟩ = some (.string (⟨#[]⟩ : ByteArray)) := (blk_cell BK300.out 0).trans rfl; have hcz103_1 : w99.cell? ⟨gb300, 1, none⟩ = some (.int .i64 0) := (blk_cell BK300.out 1).trans rfl; have hfz103_0 := blk_frozen BK300.out 0; have hfz103_1 := blk_frozen BK300.out 1))
                                have n0_ : Aside0 (((w99.setCell ⟨gb300, 0, none⟩ (.string t297)).setCell ⟨gb300, 1, none⟩ (.int .i64 t298)).heap[gb261]? = some (.cells #[.string x262000_1, .int .i64 x262001_1] 45 (0, 0))) := ⟨by (with_reducible repeat (first | refine blk_drewN ?_ _ | refine blk_drew ?_ | refine blk_alloc ?_ _)); refine blk_far ?_ NB261_300.out _; (with_reducible repeat (first | refine blk_drewN ?_ _ | refine blk_drew ?_ | refine blk_alloc ?_ _)); refine blk_far ?_ NB261_300.out _; (with_reducible repeat (first | refine blk_drewN ?_ _ | refine blk_drew ?_ | refine blk_alloc ?_ _)); exact BK261.out⟩
                                have n1_ : Aside0 (((w99.setCell ⟨gb300, 0, none⟩ (.string t297)).setCell ⟨gb300, 1, none⟩ (.int .i64 t298)).heap[gb268]? = some (.cells #[.int .i64 ((rd_T47 l1 x8_1).f0), .int .i64 ((rd_T47 l1 x8_1).f1)] 47 (0, 0))) := ⟨by (with_reducible repeat (first | refine blk_drewN ?_ _ | refine blk_drew ?_ | refine blk_alloc ?_ _)); refine blk_far ?_ NB268_300.out _; (with_reducible repeat (first | refine blk_drewN ?_ _ | refine blk_drew ?_ | refine blk_alloc ?_ _)); refine blk_far ?_ NB268_300.out _; (with_reducible repeat (first | refine blk_drewN ?_ _ | refine blk_drew ?_ | refine blk_alloc ?_ _)); exact BK268.out⟩
                                have n2_ : Aside0 (((w99.setCell ⟨gb300, 0, none⟩ (.string t297)).setCell ⟨gb300, 1, none⟩ (.int .i64 t298)).heap[gb300]? = some (.cells #[.string t297, .int .i64 t298] 45 (0, 0))) := ⟨by (with_reducible repeat (first | refine blk_drewN ?_ _ | refine blk_drew ?_ | refine blk_alloc ?_ _)); refine blk_put (cs := #[.string t297, .int .i64 0]) ?_ 1 _ rfl; (with_reducible repeat (first | refine blk_drewN ?_ _ | refine blk_drew ?_ | refine blk_alloc ?_ _)); refine blk_put (cs := #[.string (⟨#[]⟩ : ByteArray), .int .i64 0]) ?_ 0 _ rfl; (with_reducible repeat (first | refine blk_drewN ?_ _ | refine blk_drew ?_ | refine blk_alloc ?_ _)); exact BK300.out⟩
                                have n3_ : Aside0 (IsS113 w ((w99.setCell ⟨gb300, 0, none⟩ (.string t297)).setCell ⟨gb300, 1, none⟩ (.int .i64 t298)) g260 x261000_1 x261001_1) := ⟨by repeat (first | (with_reducible first | exact HI260.out | apply IsS113.alloc | apply IsS113.drewN | apply IsS113.drew | apply IsS113.set_0 | apply IsS113.set_1 | refine IsS113.far ?_ NB260_261.out _ | refine IsS113.far ?_ NB260_268.out _ | refine IsS113.far ?_ NB260_300.out _) | exact HI260.out)⟩
                                have n4_ : Aside0 (Below w.heap.size w ((w99.setCell ⟨gb300, 0, none⟩ (.string t297)).setCell ⟨gb300, 1, none⟩ (.int .i64 t298))) := ⟨by repeat (first | (with_reducible first | exact HB.out | apply below_alloc | apply pw_below_drewN | apply below_drew1 | refine below_set ?_ (IsS113.ge HI260.out) | refine below_set ?_ GE261.out | refine below_set ?_ GE268.out | refine below_set ?_ GE300.out) | exact HB.out)⟩
                                (try clear BK261)
                                (try clear BK268)
                                (try clear BK300)
                                (try clear HI260)
                                (try clear HB)
                                generalize ((w99.setCell ⟨gb300, 0, none⟩ (.string t297)).setCell ⟨gb300, 1, none⟩ (.int .i64 t298)) = w104 at n0_ n1_ n2_ n3_ n4_ ⊢
                                have BK261 := n0_
                                have BK268 := n1_
                                have BK300 := n2_
                                have HI260 := n3_
                                have HB := n4_
                                clear n0_ n1_ n2_ n3_ n4_
                                have n0_ := Aside0.mk (blk_drew BK261.out)
                                have n1_ := Aside0.mk (blk_drew BK268.out)
                                have n2_ := Aside0.mk (blk_drew BK300.out)
                                have n3_ := Aside0.mk (IsS113.drew HI260.out)
                                have n4_ := Aside0.mk (below_drew1 HB.out)
                                clear BK261
                                clear BK268
                                clear BK300
                                clear HI260
                                clear HB
                                have BK261 := n0_
                                have BK268 := n1_
                                have BK300 := n2_
                                have HI260 := n3_
                                have HB := n4_
                                clear n0_ n1_ n2_ n3_ n4_
                                refine start_ (n := 9) (S := fun w' => w'.cell? ⟨gb300, 0, none⟩ = some (.string t297) ∧ w'.cell? ⟨gb300, 1, none⟩ = some (.int .i64 t298) ∧ w'.cell? ⟨gb268, 0, none⟩ = some (.int .i64 ((rd_T47 l1 x8_1).f0)) ∧ w'.cell? ⟨gb268, 1, none⟩ = some (.int .i64 ((rd_T47 l1 x8_1).f1))) (ds := []) #[false, false, false, false, false, false, false, false, false] (by kernel_rfl) rfl rfl ⟨(blk_cell BK300.out 0).trans rfl, (blk_cell BK300.out 1).trans rfl, (blk_cell BK268.out 0).trans rfl, (blk_cell BK268.out 1).trans rfl⟩ (fun hHeld => ?_); refine with_tabW crosswaylaw03_OctetReads.tab25 crosswaylaw03_OctetReads.bits25 (fun HT_ HW_ => ?_)
                                generalize w104.drew = w105 at BK261 BK268 BK300 HI260 HB hHeld ⊢
                                refine pure_ (i := 1) (N := some 120) (v := ?_) (a' := ?_) #[false, true, false, false, false, false, false, false, false] rfl rfl (any_of HT_.out (by kernel_rfl)) (fun _ _ _ h => h) (Or.inl ⟨by rfl, ?_⟩) ?_ ?_
                                rotate_left
                                · intro w'
                                  go_simp
                                  with_reducible rfl
                                rotate_left
                                · simp only [Act.put, List.setIfInBounds_toArray, List.set_cons_zero, List.set_cons_succ, i64_w, i32_w]
                                  rfl
                                refine pure_ (i := 2) (N := some 121) (v := ?_) (a' := ?_) #[false, true, true, false, false, false, false, false, false] rfl rfl (any_of HT_.out (by kernel_rfl)) (fun _ _ _ h => h) (Or.inl ⟨by rfl, ?_⟩) ?_ ?_
                                rotate_left
                                · intro w'
                                  go_simp
                                  with_reducible rfl
                                rotate_left
                                · simp only [Act.put, List.setIfInBounds_toArray, List.set_cons_zero, List.set_cons_succ, i64_w, i32_w]
                                  rfl
                                refine pure_ (i := 5) (N := some 124) (v := ?_) (a' := ?_) #[false, true, true, false, false, true, false, false, false] rfl rfl (any_of HT_.out (by kernel_rfl)) (fun _ _ _ h => h) (Or.inl ⟨by rfl, ?_⟩) ?_ ?_
                                rotate_left
                                · intro w'
                                  go_simp
                                  with_reducible rfl
                                rotate_left
                                · simp only [Act.put, List.setIfInBounds_toArray, List.set_cons_zero, List.set_cons_succ, i64_w, i32_w]
                                  rfl
                                refine take_ (i := 0) (N := some 119) (v := ?_) (a' := ?_) #[true, true, true, false, false, true, false, false, false] rfl rfl (take_ofW HT_.out HW_.out (by kernel_rfl)) (fun _ _ _ h => h) (Or.inl ⟨by rfl, ?_⟩) hHeld ?_ ?_
                                rotate_left
                                · rintro w' ⟨s0, s1, s2, s3⟩
                                  go_simp
                                  with_reducible rfl
                                rotate_left
                                · simp only [Act.put, List.setIfInBounds_toArray, List.set_cons_zero, List.set_cons_succ, i64_w, i32_w]
                                  rfl
                                refine take_ (i := 3) (N := some 122) (v := ?_) (a' := ?_) #[true, true, true, true, false, true, false, false, false] rfl rfl (take_ofW HT_.out HW_.out (by kernel_rfl)) (fun _ _ _ h => h) (Or.inl ⟨by rfl, ?_⟩) hHeld ?_ ?_
                                rotate_left
                                · rintro w' ⟨s0, s1, s2, s3⟩
                                  go_simp
                                  with_reducible rfl
                                rotate_left
                                · simp only [Act.put, List.setIfInBounds_toArray, List.set_cons_zero, List.set_cons_succ, i64_w, i32_w]
                                  rfl
                                refine one_ (i := 4) (N := some 123) #[true, true, true, true, true, true, false, false, false] rfl rfl (one_of HT_.out (by kernel_rfl)) (by decide) (fun K hK => ?_)
                                refine goes_ Try.func37 (by kernel_rfl) rfl #[.pointer (some ⟨g260, 0, none⟩), .int .i64 ((rd_T47 l1 x8_1).f1)] (by rfl) rfl rfl (by (try simp only [List.map_toArray, List.map_cons, List.map_nil]); first | done | rfl | (simp only [List.length_drop, List.length_take]; rfl)) ?_
                                with_reducible refine (octet_Reader_Take.calls g260 x261000_1 x261001_1 ((rd_T47 l1 x8_1).f1) t301 t302 t303 w _ ?side1 ?side2 A92.out).mono ?_
                                (case side1 => repeat (first | (with_reducible first | exact HI260.out | apply IsS113.alloc | apply IsS113.drewN | apply IsS113.drew | apply IsS113.set_0 | apply IsS113.set_1 | refine IsS113.far ?_ NB260_261.out _ | refine IsS113.far ?_ NB260_268.out _ | refine IsS113.far ?_ NB260_300.out _) | exact HI260.out))
                                (case side2 => repeat (first | (with_reducible first | exact HB.out | apply below_alloc | apply pw_below_drewN | apply below_drew1 | refine below_set ?_ (IsS113.ge HI260.out) | refine below_set ?_ GE261.out | refine below_set ?_ GE268.out | refine below_set ?_ GE300.out) | exact HB.out))
                                rintro e w106 ⟨rfl, hi, hb, hk⟩
                                refine ⟨_, rfl, ?_⟩
                                have n0_ := Aside0.mk (KeepBut.blk hk (g' := gb261) (o := .cells #[.string x262000_1, .int .i64 x262001_1] 45 (0, 0)) (by (with_reducible repeat (first | refine blk_drewN ?_ _ | refine blk_drew ?_ | refine blk_alloc ?_ _)); exact BK261.out) NB261_260.out (by simp))
                                have n1_ := Aside0.mk (KeepBut.blk hk (g' := gb268) (o := .cells #[.int .i64 ((rd_T47 l1 x8_1).f0), .int .i64 ((rd_T47 l1 x8_1).f1)] 47 (0, 0)) (by (with_reducible repeat (first | refine blk_drewN ?_ _ | refine blk_drew ?_ | refine blk_alloc ?_ _)); exact BK268.out) NB268_260.out (by simp))
                                have n2_ := Aside0.mk (KeepBut.blk hk (g' := gb300) (o := .cells #[.string t297, .int .i64 t298] 45 (0, 0)) (by (with_reducible repeat (first | refine blk_drewN ?_ _ | refine blk_drew ?_ | refine blk_alloc ?_ _)); exact BK300.out) NB300_260.out (by simp))
                                have n3_ := Aside0.mk (hb)
                                have n4_ := Aside0.mk (hi)
                                clear BK261
                                clear BK268
                                clear BK300
                                clear HB
                                clear HI260
                                have BK261 := n0_
                                have BK268 := n1_
                                have BK300 := n2_
                                have HB := n3_
                                have HI260 := n4_
                                clear n0_ n1_ n2_ n3_ n4_
                                (try clear hb)
                                (try clear hb2)
                                (try clear hk)
                                (try clear hi)
                                refine hK.out _ _ ⟨(blk_cell BK300.out 0).trans rfl, (blk_cell BK300.out 1).trans rfl, (blk_cell BK268.out 0).trans rfl, (blk_cell BK268.out 1).trans rfl⟩ (fun hHeld => ?_)
                                clear hK K
                                refine norm_ (a' := ?_) ?_ ?_
                                rotate_left
                                · show Act.put _ (some 123) _ = _
                                  simp only [Act.put, List.setIfInBounds_toArray, List.set_cons_zero, List.set_cons_succ, i64_w, i32_w]
                                  rfl
                                refine pure_ (i := 6) (N := some 125) (v := ?_) (a' := ?_) #[true, true, true, true, true, true, true, false, false] rfl rfl (any_of HT_.out (by kernel_rfl)) (fun _ _ _ h => h) (Or.inl ⟨by rfl, ?_⟩) ?_ ?_
                                rotate_left
                                · intro w'
                                  go_simp
                                  with_reducible rfl
                                rotate_left
                                · simp only [Act.put, List.setIfInBounds_toArray, List.set_cons_zero, List.set_cons_succ, i64_w, i32_w]
                                  rfl
                                refine one_ (i := 7) (N := none) #[true, true, true, true, true, true, true, true, false] rfl rfl (one_of HT_.out (by kernel_rfl)) (by decide) (fun K hK => ?_)
                                have hs107 : w106.cell? ⟨gb261, 0, none⟩ = some (.string x262000_1) := (blk_cell BK261.out 0).trans rfl
                                have hfs107 := blk_frozen BK261.out 0
                                have hns107_1 := NB268_261.out
                                have hns107_2 := NB300_261.out
                                have hms107_1 := NB261_268.out
                                have hms107_2 := NB261_300.out
                                have hs108 : w106.cell? ⟨gb261, 1, none⟩ = some (.int .i64 x262001_1) := (blk_cell BK261.out 1).trans rfl
                                have hfs108 := blk_frozen BK261.out 1
                                have hns108_1 := NB268_261.out
                                have hns108_2 := NB300_261.out
                                have hms108_1 := NB261_268.out
                                have hms108_2 := NB261_300.out
                                refine skip_ (w1 := ?_) (by rfl) rfl ?_ ?_
                                rotate_left
                                · go_simp
                                  rfl
                                refine hK.out _ _ ⟨((cell_far (p := ⟨gb261, _, none⟩) NB300_261.out _).trans (((cell_far (p := ⟨gb261, _, none⟩) NB300_261.out _).trans (hHeld.1)))), ((cell_far (p := ⟨gb261, _, none⟩) NB300_261.out _).trans (((cell_far (p := ⟨gb261, _, none⟩) NB300_261.out _).trans (hHeld.2.1)))), ((cell_far (p := ⟨gb261, _, none⟩) NB268_261.out _).trans (((cell_far (p := ⟨gb261, _, none⟩) NB268_261.out _).trans (hHeld.2.2.1)))), ((cell_far (p := ⟨gb261, _, none⟩) NB268_261.out _).trans (((cell_far (p := ⟨gb261, _, none⟩) NB268_261.out _).trans (hHeld.2.2.2))))⟩ (fun hHeld => ?_)
                                clear hK K
                                refine pure_ (i := 8) (N := some 9) (v := ?_) (a' := ?_) #[true, true, true, true, true, true, true, true, true] rfl rfl (any_of HT_.out (by kernel_rfl)) (fun _ _ _ h => h) (Or.inl ⟨by rfl, ?_⟩) ?_ ?_
                                rotate_left
                                · intro w'
                                  go_simp
                                  with_reducible rfl
                                rotate_left
                                · simp only [Act.put, List.setIfInBounds_toArray, List.set_cons_zero, List.set_cons_succ, i64_w, i32_w]
                                  rfl
                                refine done_ (done_of HT_.out (by kernel_rfl)) ?_
                                try go_wp2
                                go_meet
                                case rel => exact ⟨_, ((t301.toList == t299.toList)), (t302), (t303), (t297), (t298), (by first | rfl | (simp; done) | (simp [*]; done)), H', ⟨by have := HK1.out; have := HJ11.out; first | omega | exact Nat.le_refl _⟩, ⟨by (with_reducible repeat (first | refine blk_drewN ?_ _ | refine blk_drew ?_ | refine blk_alloc ?_ _)); refine blk_put (cs := #[.string t297, .int .i64 x262001_1]) ?_ 1 _ rfl; (with_reducible repeat (first | refine blk_drewN ?_ _ | refine blk_drew ?_ | refine blk_alloc ?_ _)); refine blk_put (cs := #[.string x262000_1, .int .i64 x262001_1]) ?_ 0 _ rfl; (with_reducible repeat (first | refine blk_drewN ?_ _ | refine blk_drew ?_ | refine blk_alloc ?_ _)); exact BK261.out⟩, ⟨by (with_reducible repeat (first | refine blk_drewN ?_ _ | refine blk_drew ?_ | refine blk_alloc ?_ _)); refine blk_far ?_ NB268_261.out _; (with_reducible repeat (first | refine blk_drewN ?_ _ | refine blk_drew ?_ | refine blk_alloc ?_ _)); refine blk_far ?_ NB268_261.out _; (with_reducible repeat (first | refine blk_drewN ?_ _ | refine blk_drew ?_ | refine blk_alloc ?_ _)); exact BK268.out⟩, ⟨by repeat (first | (with_reducible first | exact HI260.out | apply IsS113.alloc | apply IsS113.drewN | apply IsS113.drew | apply IsS113.set_0 | apply IsS113.set_1 | refine IsS113.far ?_ NB260_261.out _ | refine IsS113.far ?_ NB260_268.out _ | refine IsS113.far ?_ NB260_300.out _) | exact HI260.out)⟩, ⟨by repeat (first | (with_reducible first | exact HB.out | apply below_alloc | apply pw_below_drewN | apply below_drew1 | refine below_set ?_ (IsS113.ge HI260.out) | refine below_set ?_ GE261.out | refine below_set ?_ GE268.out | refine below_set ?_ GE300.out) | exact HB.out)⟩⟩
                              · rw [if_neg c90] at H
                                have c90b0 : ((Go.bits .and .i64 ((rd_T47 l1 x8_1).f0) 7) == 4) = false := beq_eq_false_iff_ne.mpr c90
                                have c90b1 : ((Go.bits .and .i64 ((rd_T47 l1 x8_1).f0) 7) != 4) = true := bne_iff_ne.mpr c90
                                by_cases c109 : (Go.bits .and .i64 ((rd_T47 l1 x8_1).f0) 7) = 5
                                · rw [if_pos c109] at H
                                  have c109b0 : ((Go.bits .and .i64 ((rd_T47 l1 x8_1).f0) 7) == 5) = true := beq_iff_eq.mpr c109
                                  have c109b1 : ((Go.bits .and .i64 ((rd_T47 l1 x8_1).f0) 7) != 5) = false := bne_eq_false_iff_eq.mpr c109
                                  clear c109
                                  replace H := Option.bind_eq_some_iff.mp H
                                  obtain ⟨⟨t304, t305, t306⟩, A1100, H⟩ := H
                                  replace H : ((octet_Reader_Rest.f x261000_1 x261001_1).bind fun bt308 => (crosswaylaw03_OctetReads.j2 kj11 l1 x8_1 (bt308.1.toList == t306.toList) bt308.2.1 bt308.2.2 t304 t305)) = some r := H
                                  have A110 := Aside0.mk A1100
                                  clear A1100
                                  replace H := Option.bind_eq_some_iff.mp H
                                  obtain ⟨⟨t308, t309, t310⟩, A1110, H⟩ := H
                                  replace H : (crosswaylaw03_OctetReads.j2 kj11 l1 x8_1 (t308.toList == t306.toList) t309 t310 t304 t305) = some r := H
                                  have A111 := Aside0.mk A1110
                                  clear A1110
                                  have H' := Aside0.mk H
                                  clear H
                                  have hnb112 := NB261_268.out
                                  have hnc112 := NB268_261.out
                                  have hnb113 := NB261_260.out
                                  have hnc113 := NB260_261.out
                                  have hcz114_0 : w18.cell? ⟨gb261, 0, none⟩ = some (.string x262000_1) := (blk_cell BK261.out 0).trans rfl
                                  have hcz114_1 : w18.cell? ⟨gb261, 1, none⟩ = some (.int .i64 x262001_1) := (blk_cell BK261.out 1).trans rfl
                                  have hfz114_0 := blk_frozen BK261.out 0
                                  have hfz114_1 := blk_frozen BK261.out 1
                                  try go_wp2_with (first | ((with_reducible refine gate_callee (f := 36) rfl ?_); refine goesL_ (some 133) rfl rfl Try.func36 (by kernel_rfl) rfl #[.agg #[.string x262000_1, .int .i64 x262001_1], .int .i64 (x262000_1.size : Int)] rfl (by (try simp only [List.map_toArray, List.map_cons, List.map_nil]); first | done | rfl | (simp only [List.length_drop, List.length_take]; rfl)) ?_; (with_reducible refine (crosswayref03_R_Take.calls x262000_1 x262001_1 (x262000_1.size : Int) t304 t305 t306 _ A110.out).mono ?_); rintro e w115 ⟨rfl, hb⟩; refine ⟨_, rfl, ?_⟩; have n0_ := Aside0.mk (blk_below (g := gb261) (o := .cells #[.string x262000_1, .int .i64 x262001_1] 45 (0, 0)) (by (with_reducible repeat (first | refine blk_drewN ?_ _ | refine blk_drew ?_ | refine blk_alloc ?_ _)); refine blk_far ?_ NB261_268.out _; (with_reducible repeat (first | refine blk_drewN ?_ _ | refine blk_drew ?_ | refine blk_alloc ?_ _)); refine blk_far ?_ NB261_268.out _; (with_reducible repeat (first | refine blk_drewN ?_ _ | refine blk_drew ?_ | refine blk_alloc ?_ _)); exact BK261.out) hb); have n1_ := Aside0.mk (IsS113.below (show IsS113 w ((w18.setCell ⟨gb268, 0, none⟩ (.int .i64 ((rd_T47 l1 x8_1).f0))).setCell ⟨gb268, 1, none⟩ (.int .i64 ((rd_T47 l1 x8_1).f1))) g260 x261000_1 x261001_1 from by repeat (first | (with_reducible first | exact HI260.out | apply IsS113.alloc | apply IsS113.drewN | apply IsS113.drew | apply IsS113.set_0 | apply IsS113.set_1 | refine IsS113.far ?_ NB260_261.out _ | refine IsS113.far ?_ NB260_268.out _) | exact HI260.out)) hb); have n2_ := Aside0.mk (blk_below (g := gb268) (o := .cells #[.int .i64 ((rd_T47 l1 x8_1).f0), .int .i64 ((rd_T47 l1 x8_1).f1)] 47 (0, 0)) (by (with_reducible repeat (first | refine blk_drewN ?_ _ | refine blk_drew ?_ | refine blk_alloc ?_ _)); refine blk_put (cs := #[.int .i64 ((rd_T47 l1 x8_1).f0), .int .i64 0]) ?_ 1 _ rfl; (with_reducible repeat (first | refine blk_drewN ?_ _ | refine blk_drew ?_ | refine blk_alloc ?_ _)); refine blk_put (cs := #[.int .i64 0, .int .i64 0]) ?_ 0 _ rfl; (with_reducible repeat (first | refine blk_drewN ?_ _ | refine blk_drew ?_ | refine blk_alloc ?_ _)); exact BK268.out) hb); have n3_ := Aside0.mk (below_step (by repeat (first | (with_reducible first | exact HB.out | apply below_alloc | apply pw_below_drewN | apply below_drew1 | refine below_set ?_ (IsS113.ge HI260.out) | refine below_set ?_ GE261.out | refine below_set ?_ GE268.out) | exact HB.out)) hb); clear BK261; clear HI260; clear BK268; clear HB; have BK261 := n0_; have HI260 := n1_; have BK268 := n2_; have HB := n3_; clear n0_ n1_ n2_ n3_; (try clear hb); (try clear hb2); (try clear hk); (try clear hi)) | ((with_reducible refine gate_dst (N := 21) rfl ?_); (try (refine gate_guard (by rfl) ?_; dsimp only)); refine box_event ?hg (N := 21) ?hd (cs := #[.string (⟨#[]⟩ : ByteArray), .int .i64 0]) (t := 45) ?hr ?_; (case hd => rfl); (case hg => rfl); (case hr => first | (go_simp; done) | (go_simp; rfl)); intro gb307 hg w116 hbox hb; have n0_ := Aside0.mk (blk_below (g := gb261) (o := .cells #[.string x262000_1, .int .i64 x262001_1] 45 (0, 0)) (by (with_reducible repeat (first | refine blk_drewN ?_ _ | refine blk_drew ?_ | refine blk_alloc ?_ _)); exact BK261.out) hb); have n1_ := Aside0.mk (IsS113.below (by repeat (first | (with_reducible first | exact HI260.out | apply IsS113.alloc | apply IsS113.drewN | apply IsS113.drew | apply IsS113.set_0 | apply IsS113.set_1 | refine IsS113.far ?_ NB260_261.out _ | refine IsS113.far ?_ NB260_268.out _) | exact HI260.out)) hb); have n2_ := Aside0.mk (blk_below (g := gb268) (o := .cells #[.int .i64 ((rd_T47 l1 x8_1).f0), .int .i64 ((rd_T47 l1 x8_1).f1)] 47 (0, 0)) (by (with_reducible repeat (first | refine blk_drewN ?_ _ | refine blk_drew ?_ | refine blk_alloc ?_ _)); exact BK268.out) hb); have n3_ := Aside0.mk (below_step (by repeat (first | (with_reducible first | exact HB.out | apply below_alloc | apply pw_below_drewN | apply below_drew1 | refine below_set ?_ (IsS113.ge HI260.out) | refine below_set ?_ GE261.out | refine below_set ?_ GE268.out) | exact HB.out)) hb); have n4_ := Aside0.mk (hbox); have n5_ := Aside0.mk ((by rw [hg]; exact (below_size (by repeat (first | (with_reducible first | exact HB.out | apply below_alloc | apply pw_below_drewN | apply below_drew1 | refine below_set ?_ (IsS113.ge HI260.out) | refine below_set ?_ GE261.out | refine below_set ?_ GE268.out) | exact HB.out))) : w.heap.size ≤ gb307)); have n6_ := Aside0.mk ((by rw [hg]; exact (below_size (by repeat (first | (with_reducible first | exact HB.out | apply below_alloc | apply pw_below_drewN | apply below_drew1 | refine below_set ?_ (IsS113.ge HI260.out) | refine below_set ?_ GE261.out | refine below_set ?_ GE268.out) | exact HB.out))) : w.heap.size ≤ gb307)); have n7_ := Aside0.mk ((by rw [hg]; exact Nat.ne_of_lt (blk_lt (g := gb261) (o := .cells #[.string x262000_1, .int .i64 x262001_1] 45 (0, 0)) (by (with_reducible repeat (first | refine blk_drewN ?_ _ | refine blk_drew ?_ | refine blk_alloc ?_ _)); exact BK261.out)) : gb261 ≠ gb307)); have n8_ := Aside0.mk ((by rw [hg]; exact Nat.ne_of_gt (blk_lt (g := gb261) (o := .cells #[.string x262000_1, .int .i64 x262001_1] 45 (0, 0)) (by (with_reducible repeat (first | refine blk_drewN ?_ _ | refine blk_drew ?_ | refine blk_alloc ?_ _)); exact BK261.out)) : gb307 ≠ gb261)); have n9_ := Aside0.mk ((by rw [hg]; exact Nat.ne_of_lt (blk_lt (g := gb268) (o := .cells #[.int .i64 ((rd_T47 l1 x8_1).f0), .int .i64 ((rd_T47 l1 x8_1).f1)] 47 (0, 0)) (by (with_reducible repeat (first | refine blk_drewN ?_ _ | refine blk_drew ?_ | refine blk_alloc ?_ _)); exact BK268.out)) : gb268 ≠ gb307)); have n10_ := Aside0.mk ((by rw [hg]; exact Nat.ne_of_gt (blk_lt (g := gb268) (o := .cells #[.int .i64 ((rd_T47 l1 x8_1).f0), .int .i64 ((rd_T47 l1 x8_1).f1)] 47 (0, 0)) (by (with_reducible repeat (first | refine blk_drewN ?_ _ | refine blk_drew ?_ | refine blk_alloc ?_ _)); exact BK268.out)) : gb307 ≠ gb268)); have n11_ := Aside0.mk ((by rw [hg]; exact Nat.ne_of_lt (IsS113.lt (show IsS113 w _ g260 x261000_1 x261001_1 from by repeat (first | (with_reducible first | exact HI260.out | apply IsS113.alloc | apply IsS113.drewN | apply IsS113.drew | apply IsS113.set_0 | apply IsS113.set_1 | refine IsS113.far ?_ NB260_261.out _ | refine IsS113.far ?_ NB260_268.out _) | exact HI260.out))) : g260 ≠ gb307)); have n12_ := Aside0.mk ((by rw [hg]; exact Nat.ne_of_gt (IsS113.lt (show IsS113 w _ g260 x261000_1 x261001_1 from by repeat (first | (with_reducible first | exact HI260.out | apply IsS113.alloc | apply IsS113.drewN | apply IsS113.drew | apply IsS113.set_0 | apply IsS113.set_1 | refine IsS113.far ?_ NB260_261.out _ | refine IsS113.far ?_ NB260_268.out _) | exact HI260.out))) : gb307 ≠ g260)); clear BK261; clear HI260; clear BK268; clear HB; have BK261 := n0_; have HI260 := n1_; have BK268 := n2_; have HB := n3_; have BK307 := n4_; have GW307 := n5_; have GE307 := n6_; have NB261_307 := n7_; have NB307_261 := n8_; have NB268_307 := n9_; have NB307_268 := n10_; have NB260_307 := n11_; have NB307_260 := n12_; clear n0_ n1_ n2_ n3_ n4_ n5_ n6_ n7_ n8_ n9_ n10_ n11_ n12_; clear hb hbox hg; have hnb117 := NB307_261.out; have hnc117 := NB261_307.out; have hnb118 := NB307_268.out; have hnc118 := NB268_307.out; have hnb119 := NB307_260.out; have hnc119 := NB260_307.out; have hcz120_0 : w116.cell? ⟨gb307, 0, none⟩ = some (.string (⟨#[]⟩ : ByteArray)) := (blk_cell BK307.out 0).trans rfl; have hcz120_1 : w116.cell? ⟨gb307, 1, none⟩ = some (.int .i64 0) := (blk_cell BK307.out 1).trans rfl; have hfz120_0 := blk_frozen BK307.out 0; have hfz120_1 := blk_frozen BK307.out 1))
                                  have n0_ : Aside0 (((w116.setCell ⟨gb307, 0, none⟩ (.string t304)).setCell ⟨gb307, 1, none⟩ (.int .i64 t305)).heap[gb261]? = some (.cells #[.string x262000_1, .int .i64 x262001_1] 45 (0, 0))) := ⟨by (with_reducible repeat (first | refine blk_drewN ?_ _ | refine blk_drew ?_ | refine blk_alloc ?_ _)); refine blk_far ?_ NB261_307.out _; (with_reducible repeat (first | refine blk_drewN ?_ _ | refine blk_drew ?_ | refine blk_alloc ?_ _)); refine blk_far ?_ NB261_307.out _; (with_reducible repeat (first | refine blk_drewN ?_ _ | refine blk_drew ?_ | refine blk_alloc ?_ _)); exact BK261.out⟩
                                  have n1_ : Aside0 (((w116.setCell ⟨gb307, 0, none⟩ (.string t304)).setCell ⟨gb307, 1, none⟩ (.int .i64 t305)).heap[gb268]? = some (.cells #[.int .i64 ((rd_T47 l1 x8_1).f0), .int .i64 ((rd_T47 l1 x8_1).f1)] 47 (0, 0))) := ⟨by (with_reducible repeat (first | refine blk_drewN ?_ _ | refine blk_drew ?_ | refine blk_alloc ?_ _)); refine blk_far ?_ NB268_307.out _; (with_reducible repeat (first | refine blk_drewN ?_ _ | refine blk_drew ?_ | refine blk_alloc ?_ _)); refine blk_far ?_ NB268_307.out _; (with_reducible repeat (first | refine blk_drewN ?_ _ | refine blk_drew ?_ | refine blk_alloc ?_ _)); exact BK268.out⟩
                                  have n2_ : Aside0 (((w116.setCell ⟨gb307, 0, none⟩ (.string t304)).setCell ⟨gb307, 1, none⟩ (.int .i64 t305)).heap[gb307]? = some (.cells #[.string t304, .int .i64 t305] 45 (0, 0))) := ⟨by (with_reducible repeat (first | refine blk_drewN ?_ _ | refine blk_drew ?_ | refine blk_alloc ?_ _)); refine blk_put (cs := #[.string t304, .int .i64 0]) ?_ 1 _ rfl; (with_reducible repeat (first | refine blk_drewN ?_ _ | refine blk_drew ?_ | refine blk_alloc ?_ _)); refine blk_put (cs := #[.string (⟨#[]⟩ : ByteArray), .int .i64 0]) ?_ 0 _ rfl; (with_reducible repeat (first | refine blk_drewN ?_ _ | refine blk_drew ?_ | refine blk_alloc ?_ _)); exact BK307.out⟩
                                  have n3_ : Aside0 (IsS113 w ((w116.setCell ⟨gb307, 0, none⟩ (.string t304)).setCell ⟨gb307, 1, none⟩ (.int .i64 t305)) g260 x261000_1 x261001_1) := ⟨by repeat (first | (with_reducible first | exact HI260.out | apply IsS113.alloc | apply IsS113.drewN | apply IsS113.drew | apply IsS113.set_0 | apply IsS113.set_1 | refine IsS113.far ?_ NB260_261.out _ | refine IsS113.far ?_ NB260_268.out _ | refine IsS113.far ?_ NB260_307.out _) | exact HI260.out)⟩
                                  have n4_ : Aside0 (Below w.heap.size w ((w116.setCell ⟨gb307, 0, none⟩ (.string t304)).setCell ⟨gb307, 1, none⟩ (.int .i64 t305))) := ⟨by repeat (first | (with_reducible first | exact HB.out | apply below_alloc | apply pw_below_drewN | apply below_drew1 | refine below_set ?_ (IsS113.ge HI260.out) | refine below_set ?_ GE261.out | refine below_set ?_ GE268.out | refine below_set ?_ GE307.out) | exact HB.out)⟩
                                  (try clear BK261)
                                  (try clear BK268)
                                  (try clear BK307)
                                  (try clear HI260)
                                  (try clear HB)
                                  generalize ((w116.setCell ⟨gb307, 0, none⟩ (.string t304)).setCell ⟨gb307, 1, none⟩ (.int .i64 t305)) = w121 at n0_ n1_ n2_ n3_ n4_ ⊢
                                  have BK261 := n0_
                                  have BK268 := n1_
                                  have BK307 := n2_
                                  have HI260 := n3_
                                  have HB := n4_
                                  clear n0_ n1_ n2_ n3_ n4_
                                  have n0_ := Aside0.mk (blk_drew BK261.out)
                                  have n1_ := Aside0.mk (blk_drew BK268.out)
                                  have n2_ := Aside0.mk (blk_drew BK307.out)
                                  have n3_ := Aside0.mk (IsS113.drew HI260.out)
                                  have n4_ := Aside0.mk (below_drew1 HB.out)
                                  clear BK261
                                  clear BK268
                                  clear BK307
                                  clear HI260
                                  clear HB
                                  have BK261 := n0_
                                  have BK268 := n1_
                                  have BK307 := n2_
                                  have HI260 := n3_
                                  have HB := n4_
                                  clear n0_ n1_ n2_ n3_ n4_
                                  refine start_ (n := 7) (S := fun w' => w'.cell? ⟨gb307, 0, none⟩ = some (.string t304) ∧ w'.cell? ⟨gb307, 1, none⟩ = some (.int .i64 t305)) (ds := []) #[false, false, false, false, false, false, false] (by kernel_rfl) rfl rfl ⟨(blk_cell BK307.out 0).trans rfl, (blk_cell BK307.out 1).trans rfl⟩ (fun hHeld => ?_)
                                  generalize w121.drew = w122 at BK261 BK268 BK307 HI260 HB hHeld ⊢
                                  refine pure_ (i := 1) (N := some 137) (v := ?_) (a' := ?_) #[false, true, false, false, false, false, false] rfl rfl (by kernel_rfl) (fun _ _ _ h => h) (Or.inl ⟨by rfl, ?_⟩) ?_ ?_
                                  rotate_left
                                  · intro w'
                                    go_simp
                                    with_reducible rfl
                                  rotate_left
                                  · simp only [Act.put, List.setIfInBounds_toArray, List.set_cons_zero, List.set_cons_succ, i64_w, i32_w]
                                    rfl
                                  refine pure_ (i := 3) (N := some 139) (v := ?_) (a' := ?_) #[false, true, false, true, false, false, false] rfl rfl (by kernel_rfl) (fun _ _ _ h => h) (Or.inl ⟨by rfl, ?_⟩) ?_ ?_
                                  rotate_left
                                  · intro w'
                                    go_simp
                                    with_reducible rfl
                                  rotate_left
                                  · simp only [Act.put, List.setIfInBounds_toArray, List.set_cons_zero, List.set_cons_succ, i64_w, i32_w]
                                    rfl
                                  refine take_ (i := 0) (N := some 136) (v := ?_) (a' := ?_) #[true, true, false, true, false, false, false] rfl rfl (by kernel_rfl) (fun _ _ _ h => h) (Or.inl ⟨by rfl, ?_⟩) hHeld ?_ ?_
                                  rotate_left
                                  · rintro w' ⟨s0, s1⟩
                                    go_simp
                                    with_reducible rfl
                                  rotate_left
                                  · simp only [Act.put, List.setIfInBounds_toArray, List.set_cons_zero, List.set_cons_succ, i64_w, i32_w]
                                    rfl
                                  refine one_ (i := 2) (N := some 138) #[true, true, true, true, false, false, false] rfl rfl (by kernel_rfl) (by decide) (fun K hK => ?_)
                                  refine goes_ Try.func38 (by kernel_rfl) rfl #[.pointer (some ⟨g260, 0, none⟩)] (by rfl) rfl rfl (by (try simp only [List.map_toArray, List.map_cons, List.map_nil]); first | done | rfl | (simp only [List.length_drop, List.length_take]; rfl)) ?_
                                  with_reducible refine (octet_Reader_Rest.calls g260 x261000_1 x261001_1 t308 t309 t310 w _ ?side1 ?side2 A111.out).mono ?_
                                  (case side1 => repeat (first | (with_reducible first | exact HI260.out | apply IsS113.alloc | apply IsS113.drewN | apply IsS113.drew | apply IsS113.set_0 | apply IsS113.set_1 | refine IsS113.far ?_ NB260_261.out _ | refine IsS113.far ?_ NB260_268.out _ | refine IsS113.far ?_ NB260_307.out _) | exact HI260.out))
                                  (case side2 => repeat (first | (with_reducible first | exact HB.out | apply below_alloc | apply pw_below_drewN | apply below_drew1 | refine below_set ?_ (IsS113.ge HI260.out) | refine below_set ?_ GE261.out | refine below_set ?_ GE268.out | refine below_set ?_ GE307.out) | exact HB.out))
                                  rintro e w123 ⟨rfl, hi, hb, hk⟩
                                  refine ⟨_, rfl, ?_⟩
                                  have n0_ := Aside0.mk (KeepBut.blk hk (g' := gb261) (o := .cells #[.string x262000_1, .int .i64 x262001_1] 45 (0, 0)) (by (with_reducible repeat (first | refine blk_drewN ?_ _ | refine blk_drew ?_ | refine blk_alloc ?_ _)); exact BK261.out) NB261_260.out (by simp))
                                  have n1_ := Aside0.mk (KeepBut.blk hk (g' := gb268) (o := .cells #[.int .i64 ((rd_T47 l1 x8_1).f0), .int .i64 ((rd_T47 l1 x8_1).f1)] 47 (0, 0)) (by (with_reducible repeat (first | refine blk_drewN ?_ _ | refine blk_drew ?_ | refine blk_alloc ?_ _)); exact BK268.out) NB268_260.out (by simp))
                                  have n2_ := Aside0.mk (KeepBut.blk hk (g' := gb307) (o := .cells #[.string t304, .int .i64 t305] 45 (0, 0)) (by (with_reducible repeat (first | refine blk_drewN ?_ _ | refine blk_drew ?_ | refine blk_alloc ?_ _)); exact BK307.out) NB307_260.out (by simp))
                                  have n3_ := Aside0.mk (hb)
                                  have n4_ := Aside0.mk (hi)
                                  clear BK261
                                  clear BK268
                                  clear BK307
                                  clear HB
                                  clear HI260
                                  have BK261 := n0_
                                  have BK268 := n1_
                                  have BK307 := n2_
                                  have HB := n3_
                                  have HI260 := n4_
                                  clear n0_ n1_ n2_ n3_ n4_
                                  (try clear hb)
                                  (try clear hb2)
                                  (try clear hk)
                                  (try clear hi)
                                  refine hK.out _ _ ⟨(blk_cell BK307.out 0).trans rfl, (blk_cell BK307.out 1).trans rfl⟩ (fun hHeld => ?_)
                                  clear hK K
                                  refine norm_ (a' := ?_) ?_ ?_
                                  rotate_left
                                  · show Act.put _ (some 138) _ = _
                                    simp only [Act.put, List.setIfInBounds_toArray, List.set_cons_zero, List.set_cons_succ, i64_w, i32_w]
                                    rfl
                                  refine pure_ (i := 4) (N := some 140) (v := ?_) (a' := ?_) #[true, true, true, true, true, false, false] rfl rfl (by kernel_rfl) (fun _ _ _ h => h) (Or.inl ⟨by rfl, ?_⟩) ?_ ?_
                                  rotate_left
                                  · intro w'
                                    go_simp
                                    with_reducible rfl
                                  rotate_left
                                  · simp only [Act.put, List.setIfInBounds_toArray, List.set_cons_zero, List.set_cons_succ, i64_w, i32_w]
                                    rfl
                                  refine one_ (i := 5) (N := none) #[true, true, true, true, true, true, false] rfl rfl (by kernel_rfl) (by decide) (fun K hK => ?_)
                                  have hs124 : w123.cell? ⟨gb261, 0, none⟩ = some (.string x262000_1) := (blk_cell BK261.out 0).trans rfl
                                  have hfs124 := blk_frozen BK261.out 0
                                  have hns124_1 := NB268_261.out
                                  have hns124_2 := NB307_261.out
                                  have hms124_1 := NB261_268.out
                                  have hms124_2 := NB261_307.out
                                  have hs125 : w123.cell? ⟨gb261, 1, none⟩ = some (.int .i64 x262001_1) := (blk_cell BK261.out 1).trans rfl
                                  have hfs125 := blk_frozen BK261.out 1
                                  have hns125_1 := NB268_261.out
                                  have hns125_2 := NB307_261.out
                                  have hms125_1 := NB261_268.out
                                  have hms125_2 := NB261_307.out
                                  refine skip_ (w1 := ?_) (by rfl) rfl ?_ ?_
                                  rotate_left
                                  · go_simp
                                    rfl
                                  refine hK.out _ _ ⟨((cell_far (p := ⟨gb261, _, none⟩) NB307_261.out _).trans (((cell_far (p := ⟨gb261, _, none⟩) NB307_261.out _).trans (hHeld.1)))), ((cell_far (p := ⟨gb261, _, none⟩) NB307_261.out _).trans (((cell_far (p := ⟨gb261, _, none⟩) NB307_261.out _).trans (hHeld.2))))⟩ (fun hHeld => ?_)
                                  clear hK K
                                  refine pure_ (i := 6) (N := some 9) (v := ?_) (a' := ?_) #[true, true, true, true, true, true, true] rfl rfl (by kernel_rfl) (fun _ _ _ h => h) (Or.inl ⟨by rfl, ?_⟩) ?_ ?_
                                  rotate_left
                                  · intro w'
                                    go_simp
                                    with_reducible rfl
                                  rotate_left
                                  · simp only [Act.put, List.setIfInBounds_toArray, List.set_cons_zero, List.set_cons_succ, i64_w, i32_w]
                                    rfl
                                  refine done_ (by kernel_rfl) ?_
                                  try go_wp2
                                  go_meet
                                  case rel => exact ⟨_, ((t308.toList == t306.toList)), (t309), (t310), (t304), (t305), (by first | rfl | (simp; done) | (simp [*]; done)), H', ⟨by have := HK1.out; have := HJ11.out; first | omega | exact Nat.le_refl _⟩, ⟨by (with_reducible repeat (first | refine blk_drewN ?_ _ | refine blk_drew ?_ | refine blk_alloc ?_ _)); refine blk_put (cs := #[.string t304, .int .i64 x262001_1]) ?_ 1 _ rfl; (with_reducible repeat (first | refine blk_drewN ?_ _ | refine blk_drew ?_ | refine blk_alloc ?_ _)); refine blk_put (cs := #[.string x262000_1, .int .i64 x262001_1]) ?_ 0 _ rfl; (with_reducible repeat (first | refine blk_drewN ?_ _ | refine blk_drew ?_ | refine blk_alloc ?_ _)); exact BK261.out⟩, ⟨by (with_reducible repeat (first | refine blk_drewN ?_ _ | refine blk_drew ?_ | refine blk_alloc ?_ _)); refine blk_far ?_ NB268_261.out _; (with_reducible repeat (first | refine blk_drewN ?_ _ | refine blk_drew ?_ | refine blk_alloc ?_ _)); refine blk_far ?_ NB268_261.out _; (with_reducible repeat (first | refine blk_drewN ?_ _ | refine blk_drew ?_ | refine blk_alloc ?_ _)); exact BK268.out⟩, ⟨by repeat (first | (with_reducible first | exact HI260.out | apply IsS113.alloc | apply IsS113.drewN | apply IsS113.drew | apply IsS113.set_0 | apply IsS113.set_1 | refine IsS113.far ?_ NB260_261.out _ | refine IsS113.far ?_ NB260_268.out _ | refine IsS113.far ?_ NB260_307.out _) | exact HI260.out)⟩, ⟨by repeat (first | (with_reducible first | exact HB.out | apply below_alloc | apply pw_below_drewN | apply below_drew1 | refine below_set ?_ (IsS113.ge HI260.out) | refine below_set ?_ GE261.out | refine below_set ?_ GE268.out | refine below_set ?_ GE307.out) | exact HB.out)⟩⟩
                                · rw [if_neg c109] at H
                                  have c109b0 : ((Go.bits .and .i64 ((rd_T47 l1 x8_1).f0) 7) == 5) = false := beq_eq_false_iff_ne.mpr c109
                                  have c109b1 : ((Go.bits .and .i64 ((rd_T47 l1 x8_1).f0) 7) != 5) = true := bne_iff_ne.mpr c109
                                  replace H := Option.bind_eq_some_iff.mp H
                                  obtain ⟨⟨t311, t312⟩, A1260, H⟩ := H
                                  replace H : ((crosswayref03_R_Fill.f kj11 x262000_1 x262001_1 (Go.bits .and .i64 ((rd_T47 l1 x8_1).f1) 255)).bind fun bt313 => (crosswaylaw03_OctetReads.j2 kj11 l1 x8_1 true t311 t312 bt313.1 bt313.2)) = some r := H
                                  have A126 := Aside0.mk A1260
                                  clear A1260
                                  replace H := Option.bind_eq_some_iff.mp H
                                  obtain ⟨⟨t313, t314⟩, A1270, H⟩ := H
                                  replace H : (crosswaylaw03_OctetReads.j2 kj11 l1 x8_1 true t311 t312 t313 t314) = some r := H
                                  have A127 := Aside0.mk A1270
                                  clear A1270
                                  have H' := Aside0.mk H
                                  clear H
                                  have hnb128 := NB268_261.out
                                  have hnc128 := NB261_268.out
                                  have hnb129 := NB268_260.out
                                  have hnc129 := NB260_268.out
                                  have hcz130_0 : w18.cell? ⟨gb268, 0, none⟩ = some (.int .i64 0) := (blk_cell BK268.out 0).trans rfl
                                  have hcz130_1 : w18.cell? ⟨gb268, 1, none⟩ = some (.int .i64 0) := (blk_cell BK268.out 1).trans rfl
                                  have hfz130_0 := blk_frozen BK268.out 0
                                  have hfz130_1 := blk_frozen BK268.out 1
                                  go_wp2_with (first | ((with_reducible refine gate_callee (f := 39) rfl ?_); refine goesL_ (some 53) rfl rfl Try.func39 (by kernel_rfl) rfl #[.pointer (some ⟨g260, 0, none⟩), .int .i64 (Go.bits .and .i64 ((rd_T47 l1 x8_1).f1) 255)] rfl (by (try simp only [List.map_toArray, List.map_cons, List.map_nil]); first | done | rfl | (simp only [List.length_drop, List.length_take]; rfl)) ?_; (with_reducible refine (octet_Reader_Fill.calls g260 x261000_1 x261001_1 (Go.bits .and .i64 ((rd_T47 l1 x8_1).f1) 255) t311 t312 w _ ?side1 ?side2 A126.out).mono ?_); (case side1 => repeat (first | (with_reducible first | exact HI260.out | apply IsS113.alloc | apply IsS113.drewN | apply IsS113.drew | apply IsS113.set_0 | apply IsS113.set_1 | refine IsS113.far ?_ NB260_261.out _ | refine IsS113.far ?_ NB260_268.out _) | exact HI260.out)); (case side2 => repeat (first | (with_reducible first | exact HB.out | apply below_alloc | apply pw_below_drewN | apply below_drew1 | refine below_set ?_ (IsS113.ge HI260.out) | refine below_set ?_ GE261.out | refine below_set ?_ GE268.out) | exact HB.out)); rintro e w131 ⟨rfl, hi, hb, hk⟩; refine ⟨_, rfl, ?_⟩; have n0_ := Aside0.mk (KeepBut.blk hk (g' := gb261) (o := .cells #[.string x262000_1, .int .i64 x262001_1] 45 (0, 0)) (by (with_reducible repeat (first | refine blk_drewN ?_ _ | refine blk_drew ?_ | refine blk_alloc ?_ _)); refine blk_far ?_ NB261_268.out _; (with_reducible repeat (first | refine blk_drewN ?_ _ | refine blk_drew ?_ | refine blk_alloc ?_ _)); refine blk_far ?_ NB261_268.out _; (with_reducible repeat (first | refine blk_drewN ?_ _ | refine blk_drew ?_ | refine blk_alloc ?_ _)); exact BK261.out) NB261_260.out (by simp)); have n1_ := Aside0.mk (KeepBut.blk hk (g' := gb268) (o := .cells #[.int .i64 ((rd_T47 l1 x8_1).f0), .int .i64 ((rd_T47 l1 x8_1).f1)] 47 (0, 0)) (by (with_reducible repeat (first | refine blk_drewN ?_ _ | refine blk_drew ?_ | refine blk_alloc ?_ _)); refine blk_put (cs := #[.int .i64 ((rd_T47 l1 x8_1).f0), .int .i64 0]) ?_ 1 _ rfl; (with_reducible repeat (first | refine blk_drewN ?_ _ | refine blk_drew ?_ | refine blk_alloc ?_ _)); refine blk_put (cs := #[.int .i64 0, .int .i64 0]) ?_ 0 _ rfl; (with_reducible repeat (first | refine blk_drewN ?_ _ | refine blk_drew ?_ | refine blk_alloc ?_ _)); exact BK268.out) NB268_260.out (by simp)); have n2_ := Aside0.mk (hb); have n3_ := Aside0.mk (hi); clear BK261; clear BK268; clear HB; clear HI260; have BK261 := n0_; have BK268 := n1_; have HB := n2_; have HI260 := n3_; clear n0_ n1_ n2_ n3_; (try clear hb); (try clear hb2); (try clear hk); (try clear hi); have hnb132 := NB261_260.out; have hnc132 := NB260_261.out; have hcz133_0 : w131.cell? ⟨gb261, 0, none⟩ = some (.string x262000_1) := (blk_cell BK261.out 0).trans rfl; have hcz133_1 : w131.cell? ⟨gb261, 1, none⟩ = some (.int .i64 x262001_1) := (blk_cell BK261.out 1).trans rfl; have hfz133_0 := blk_frozen BK261.out 0; have hfz133_1 := blk_frozen BK261.out 1; have hcz134_0 : w131.cell? ⟨gb268, 0, none⟩ = some (.int .i64 ((rd_T47 l1 x8_1).f0)) := (blk_cell BK268.out 0).trans rfl; have hcz134_1 : w131.cell? ⟨gb268, 1, none⟩ = some (.int .i64 ((rd_T47 l1 x8_1).f1)) := (blk_cell BK268.out 1).trans rfl; have hfz134_0 := blk_frozen BK268.out 0; have hfz134_1 := blk_frozen BK268.out 1) | ((with_reducible refine gate_callee (f := 40) rfl ?_); refine goesL_ (some 58) rfl rfl Try.func40 (by kernel_rfl) rfl #[.agg #[.string x262000_1, .int .i64 x262001_1], .int .i64 (Go.bits .and .i64 ((rd_T47 l1 x8_1).f1) 255)] rfl (by (try simp only [List.map_toArray, List.map_cons, List.map_nil]); first | done | rfl | (simp only [List.length_drop, List.length_take]; rfl)) ?_; (with_reducible refine (crosswayref03_R_Fill.calls kj11 x262000_1 x262001_1 (Go.bits .and .i64 ((rd_T47 l1 x8_1).f1) 255) t313 t314 _ A127.out).mono ?_); rintro e w135 ⟨rfl, hb⟩; refine ⟨_, rfl, ?_⟩; have n0_ := Aside0.mk (blk_below (g := gb261) (o := .cells #[.string x262000_1, .int .i64 x262001_1] 45 (0, 0)) (by (with_reducible repeat (first | refine blk_drewN ?_ _ | refine blk_drew ?_ | refine blk_alloc ?_ _)); exact BK261.out) hb); have n1_ := Aside0.mk (IsS113.below (by repeat (first | (with_reducible first | exact HI260.out | apply IsS113.alloc | apply IsS113.drewN | apply IsS113.drew | apply IsS113.set_0 | apply IsS113.set_1 | refine IsS113.far ?_ NB260_261.out _ | refine IsS113.far ?_ NB260_268.out _) | exact HI260.out)) hb); have n2_ := Aside0.mk (blk_below (g := gb268) (o := .cells #[.int .i64 ((rd_T47 l1 x8_1).f0), .int .i64 ((rd_T47 l1 x8_1).f1)] 47 (0, 0)) (by (with_reducible repeat (first | refine blk_drewN ?_ _ | refine blk_drew ?_ | refine blk_alloc ?_ _)); exact BK268.out) hb); have n3_ := Aside0.mk (below_step (by repeat (first | (with_reducible first | exact HB.out | apply below_alloc | apply pw_below_drewN | apply below_drew1 | refine below_set ?_ (IsS113.ge HI260.out) | refine below_set ?_ GE261.out | refine below_set ?_ GE268.out) | exact HB.out)) hb); clear BK261; clear HI260; clear BK268; clear HB; have BK261 := n0_; have HI260 := n1_; have BK268 := n2_; have HB := n3_; clear n0_ n1_ n2_ n3_; (try clear hb); (try clear hb2); (try clear hk); (try clear hi); have hcz136_0 : w135.cell? ⟨gb261, 0, none⟩ = some (.string x262000_1) := (blk_cell BK261.out 0).trans rfl; have hcz136_1 : w135.cell? ⟨gb261, 1, none⟩ = some (.int .i64 x262001_1) := (blk_cell BK261.out 1).trans rfl; have hfz136_0 := blk_frozen BK261.out 0; have hfz136_1 := blk_frozen BK261.out 1))
                                  go_meet
                                  case rel => exact ⟨_, (true), (t311), (t312), (t313), (t314), (by first | rfl | (simp; done) | (simp [*]; done)), H', ⟨by have := HK1.out; have := HJ11.out; first | omega | exact Nat.le_refl _⟩, ⟨by (with_reducible repeat (first | refine blk_drewN ?_ _ | refine blk_drew ?_ | refine blk_alloc ?_ _)); refine blk_put (cs := #[.string t313, .int .i64 x262001_1]) ?_ 1 _ rfl; (with_reducible repeat (first | refine blk_drewN ?_ _ | refine blk_drew ?_ | refine blk_alloc ?_ _)); refine blk_put (cs := #[.string x262000_1, .int .i64 x262001_1]) ?_ 0 _ rfl; (with_reducible repeat (first | refine blk_drewN ?_ _ | refine blk_drew ?_ | refine blk_alloc ?_ _)); exact BK261.out⟩, ⟨by (with_reducible repeat (first | refine blk_drewN ?_ _ | refine blk_drew ?_ | refine blk_alloc ?_ _)); refine blk_far ?_ NB268_261.out _; (with_reducible repeat (first | refine blk_drewN ?_ _ | refine blk_drew ?_ | refine blk_alloc ?_ _)); refine blk_far ?_ NB268_261.out _; (with_reducible repeat (first | refine blk_drewN ?_ _ | refine blk_drew ?_ | refine blk_alloc ?_ _)); exact BK268.out⟩, ⟨by repeat (first | (with_reducible first | exact HI260.out | apply IsS113.alloc | apply IsS113.drewN | apply IsS113.drew | apply IsS113.set_0 | apply IsS113.set_1 | refine IsS113.far ?_ NB260_261.out _ | refine IsS113.far ?_ NB260_268.out _) | exact HI260.out)⟩, ⟨by repeat (first | (with_reducible first | exact HB.out | apply below_alloc | apply pw_below_drewN | apply below_drew1 | refine below_set ?_ (IsS113.ge HI260.out) | refine below_set ?_ GE261.out | refine below_set ?_ GE268.out) | exact HB.out)⟩⟩
                    case rest =>
                      clear HC17
                      try clear c1
                      try clear p2
                      try clear c3
                      try clear c4
                      try clear c5
                      try clear c7
                      try clear c8
                      try clear c9
                      try clear c10
                      try clear c11
                      try clear c12
                      try clear c13
                      try clear c31
                      try clear c35
                      try clear c36
                      try clear c37
                      try clear c38
                      try clear c39
                      try clear c40
                      try clear c56
                      try clear c56b0
                      try clear c56b1
                      try clear c73
                      try clear c73b0
                      try clear c73b1
                      try clear c76
                      try clear c77
                      try clear c81
                      try clear c82
                      try clear c83
                      try clear c90
                      try clear c90b0
                      try clear c90b1
                      try clear c93
                      try clear c94
                      try clear c96
                      try clear c100
                      try clear c101
                      try clear c102
                      try clear c109
                      try clear c109b0
                      try clear c109b1
                      try clear c112
                      try clear c113
                      try clear c117
                      try clear c118
                      try clear c119
                      try clear c128
                      try clear c129
                      try clear c132
                      try clear hcz103_0
                      try clear hcz103_1
                      try clear hcz114_0
                      try clear hcz114_1
                      try clear hcz120_0
                      try clear hcz120_1
                      try clear hcz130_0
                      try clear hcz130_1
                      try clear hcz133_0
                      try clear hcz133_1
                      try clear hcz134_0
                      try clear hcz134_1
                      try clear hcz136_0
                      try clear hcz136_1
                      try clear hcz78_0
                      try clear hcz78_1
                      try clear hcz84_0
                      try clear hcz84_1
                      try clear hcz95_0
                      try clear hcz95_1
                      try clear hcz97_0
                      try clear hcz97_1
                      try clear hfz103_0
                      try clear hfz103_1
                      try clear hfz114_0
                      try clear hfz114_1
                      try clear hfz120_0
                      try clear hfz120_1
                      try clear hfz130_0
                      try clear hfz130_1
                      try clear hfz133_0
                      try clear hfz133_1
                      try clear hfz134_0
                      try clear hfz134_1
                      try clear hfz136_0
                      try clear hfz136_1
                      try clear hfz78_0
                      try clear hfz78_1
                      try clear hfz84_0
                      try clear hfz84_1
                      try clear hfz95_0
                      try clear hfz95_1
                      try clear hfz97_0
                      try clear hfz97_1
                      obtain ⟨kq, x9_16, x261000_16, x261001_16, x262000_16, x262001_16, rfl, HA, HJ16, BK261, BK268, HI260, HB⟩ := hcut
                      cases kq with
                      | zero => exact absurd HA.out (by simp [crosswaylaw03_OctetReads.j2])
                      | succ kj16 =>
                        have H := HA.out
                        clear HA
                        simp only [crosswaylaw03_OctetReads.j2] at H
                        by_cases c137 : x9_16 = true
                        · subst c137
                          have H1 : ((octet_Reader_Err.f x261000_16 x261001_16).bind fun bt315 => (if bt315.1 = x262001_16 then ((octet_Reader_Left.f bt315.2.1 bt315.2.2).bind fun bt318 => (if bt318.1 = (x262000_16.size : Int) then (crosswaylaw03_OctetReads.l0 kj16 l1 (wrap64 (x8_1 + 1)) bt318.2.1 bt318.2.2 x262000_16 x262001_16) else (some false))) else (some false))) = some r := by rw [if_pos rfl] at H; exact H
                          clear H
                          have H := H1
                          clear H1
                          replace H := Option.bind_eq_some_iff.mp H
                          obtain ⟨⟨t315, t316, t317⟩, A1380, H⟩ := H
                          replace H : (if t315 = x262001_16 then ((octet_Reader_Left.f t316 t317).bind fun bt318 => (if bt318.1 = (x262000_16.size : Int) then (crosswaylaw03_OctetReads.l0 kj16 l1 (wrap64 (x8_1 + 1)) bt318.2.1 bt318.2.2 x262000_16 x262001_16) else (some false))) else (some false)) = some r := H
                          have A138 := Aside0.mk A1380
                          clear A1380
                          by_cases c139 : t315 = x262001_16
                          · rw [if_pos c139] at H
                            have c139b0 : (t315 == x262001_16) = true := beq_iff_eq.mpr c139
                            have c139b1 : (t315 != x262001_16) = false := bne_eq_false_iff_eq.mpr c139
                            clear c139
                            replace H := Option.bind_eq_some_iff.mp H
                            obtain ⟨⟨t318, t319, t320⟩, A1400, H⟩ := H
                            replace H : (if t318 = (x262000_16.size : Int) then (crosswaylaw03_OctetReads.l0 kj16 l1 (wrap64 (x8_1 + 1)) t319 t320 x262000_16 x262001_16) else (some false)) = some r := H
                            have A140 := Aside0.mk A1400
                            clear A1400
                            by_cases c141 : t318 = (x262000_16.size : Int)
                            · rw [if_pos c141] at H
                              have c141b0 : (t318 == (x262000_16.size : Int)) = true := beq_iff_eq.mpr c141
                              have c141b1 : (t318 != (x262000_16.size : Int)) = false := bne_eq_false_iff_eq.mpr c141
                              clear c141
                              have H' := Aside0.mk H
                              clear H
                              try go_wp2
                              have n0_ := Aside0.mk (blk_drew BK261.out)
                              have n1_ := Aside0.mk (blk_drew BK268.out)
                              have n2_ := Aside0.mk (IsS113.drew HI260.out)
                              have n3_ := Aside0.mk (below_drew1 HB.out)
                              clear BK261
                              clear BK268
                              clear HI260
                              clear HB
                              have BK261 := n0_
                              have BK268 := n1_
                              have HI260 := n2_
                              have HB := n3_
                              clear n0_ n1_ n2_ n3_
                              refine start_ (n := 17) (S := fun w' => w'.cell? ⟨gb261, 0, none⟩ = some (.string x262000_16) ∧ w'.cell? ⟨gb261, 1, none⟩ = some (.int .i64 x262001_16)) (ds := []) #[false, false, false, false, false, false, false, false, false, false, false, false, false, false, false, false, false] (by kernel_rfl) rfl rfl ⟨(blk_cell BK261.out 0).trans rfl, (blk_cell BK261.out 1).trans rfl⟩ (fun hHeld => ?_); refine with_tabW crosswaylaw03_OctetReads.tab29 crosswaylaw03_OctetReads.bits29 (fun HT_ HW_ => ?_)
                              generalize wc.drew = w142 at BK261 BK268 HI260 HB hHeld ⊢
                              refine pure_ (i := 0) (N := some 141) (v := ?_) (a' := ?_) #[true, false, false, false, false, false, false, false, false, false, false, false, false, false, false, false, false] rfl rfl (any_of HT_.out (by kernel_rfl)) (fun _ _ _ h => h) (Or.inl ⟨by rfl, ?_⟩) ?_ ?_
                              rotate_left
                              · intro w'
                                go_simp
                                with_reducible rfl
                              rotate_left
                              · simp only [Act.put, List.setIfInBounds_toArray, List.set_cons_zero, List.set_cons_succ, i64_w, i32_w]
                                rfl
                              refine pure_ (i := 1) (N := some 142) (v := ?_) (a' := ?_) #[true, true, false, false, false, false, false, false, false, false, false, false, false, false, false, false, false] rfl rfl (any_of HT_.out (by kernel_rfl)) (fun _ _ _ h => h) (Or.inl ⟨by rfl, ?_⟩) ?_ ?_
                              rotate_left
                              · intro w'
                                go_simp
                                with_reducible rfl
                              rotate_left
                              · simp only [Act.put, List.setIfInBounds_toArray, List.set_cons_zero, List.set_cons_succ, i64_w, i32_w]
                                rfl
                              refine pure_ (i := 2) (N := some 143) (v := ?_) (a' := ?_) #[true, true, true, false, false, false, false, false, false, false, false, false, false, false, false, false, false] rfl rfl (any_of HT_.out (by kernel_rfl)) (fun _ _ _ h => h) (Or.inl ⟨by rfl, ?_⟩) ?_ ?_
                              rotate_left
                              · intro w'
                                go_simp
                                with_reducible rfl
                              rotate_left
                              · simp only [Act.put, List.setIfInBounds_toArray, List.set_cons_zero, List.set_cons_succ, i64_w, i32_w]
                                rfl
                              refine pure_ (i := 3) (N := some 144) (v := ?_) (a' := ?_) #[true, true, true, true, false, false, false, false, false, false, false, false, false, false, false, false, false] rfl rfl (any_of HT_.out (by kernel_rfl)) (fun _ _ _ h => h) (Or.inl ⟨by rfl, ?_⟩) ?_ ?_
                              rotate_left
                              · intro w'
                                go_simp
                                with_reducible rfl
                              rotate_left
                              · simp only [Act.put, List.setIfInBounds_toArray, List.set_cons_zero, List.set_cons_succ, i64_w, i32_w]
                                rfl
                              refine pure_ (i := 5) (N := some 146) (v := ?_) (a' := ?_) #[true, true, true, true, false, true, false, false, false, false, false, false, false, false, false, false, false] rfl rfl (any_of HT_.out (by kernel_rfl)) (fun _ _ _ h => h) (Or.inl ⟨by rfl, ?_⟩) ?_ ?_
                              rotate_left
                              · intro w'
                                go_simp
                                with_reducible rfl
                              rotate_left
                              · simp only [Act.put, List.setIfInBounds_toArray, List.set_cons_zero, List.set_cons_succ, i64_w, i32_w]
                                rfl
                              refine take_ (i := 6) (N := some 147) (v := ?_) (a' := ?_) #[true, true, true, true, false, true, true, false, false, false, false, false, false, false, false, false, false] rfl rfl (take_ofW HT_.out HW_.out (by kernel_rfl)) (fun _ _ _ h => h) (Or.inl ⟨by rfl, ?_⟩) hHeld ?_ ?_
                              rotate_left
                              · rintro w' ⟨s0, s1⟩
                                go_simp
                                with_reducible rfl
                              rotate_left
                              · simp only [Act.put, List.setIfInBounds_toArray, List.set_cons_zero, List.set_cons_succ, i64_w, i32_w]
                                rfl
                              refine one_ (i := 4) (N := some 145) #[true, true, true, true, true, true, true, false, false, false, false, false, false, false, false, false, false] rfl rfl (one_of HT_.out (by kernel_rfl)) (by decide) (fun K hK => ?_)
                              refine goes_ Try.func41 (by kernel_rfl) rfl #[.pointer (some ⟨g260, 0, none⟩)] (by rfl) rfl rfl (by (try simp only [List.map_toArray, List.map_cons, List.map_nil]); first | done | rfl | (simp only [List.length_drop, List.length_take]; rfl)) ?_
                              with_reducible refine (octet_Reader_Err.calls g260 x261000_16 x261001_16 t315 t316 t317 w _ ?side1 ?side2 A138.out).mono ?_
                              (case side1 => repeat (first | (with_reducible first | exact HI260.out | apply IsS113.alloc | apply IsS113.drewN | apply IsS113.drew | apply IsS113.set_0 | apply IsS113.set_1 | refine IsS113.far ?_ NB260_261.out _ | refine IsS113.far ?_ NB260_268.out _) | exact HI260.out))
                              (case side2 => repeat (first | (with_reducible first | exact HB.out | apply below_alloc | apply pw_below_drewN | apply below_drew1 | refine below_set ?_ (IsS113.ge HI260.out) | refine below_set ?_ GE261.out | refine below_set ?_ GE268.out) | exact HB.out))
                              rintro e w143 ⟨rfl, hi, hb, hk⟩
                              refine ⟨_, rfl, ?_⟩
                              have n0_ := Aside0.mk (KeepBut.blk hk (g' := gb261) (o := .cells #[.string x262000_16, .int .i64 x262001_16] 45 (0, 0)) (by (with_reducible repeat (first | refine blk_drewN ?_ _ | refine blk_drew ?_ | refine blk_alloc ?_ _)); exact BK261.out) NB261_260.out (by simp))
                              have n1_ := Aside0.mk (KeepBut.blk hk (g' := gb268) (o := .cells #[.int .i64 ((rd_T47 l1 x8_1).f0), .int .i64 ((rd_T47 l1 x8_1).f1)] 47 (0, 0)) (by (with_reducible repeat (first | refine blk_drewN ?_ _ | refine blk_drew ?_ | refine blk_alloc ?_ _)); exact BK268.out) NB268_260.out (by simp))
                              have n2_ := Aside0.mk (hb)
                              have n3_ := Aside0.mk (hi)
                              clear BK261
                              clear BK268
                              clear HB
                              clear HI260
                              have BK261 := n0_
                              have BK268 := n1_
                              have HB := n2_
                              have HI260 := n3_
                              clear n0_ n1_ n2_ n3_
                              (try clear hb)
                              (try clear hb2)
                              (try clear hk)
                              (try clear hi)
                              refine hK.out _ _ ⟨(blk_cell BK261.out 0).trans rfl, (blk_cell BK261.out 1).trans rfl⟩ (fun hHeld => ?_)
                              clear hK K
                              refine norm_ (a' := ?_) ?_ ?_
                              rotate_left
                              · show Act.put _ (some 145) _ = _
                                simp only [Act.put, List.setIfInBounds_toArray, List.set_cons_zero, List.set_cons_succ, i64_w, i32_w]
                                rfl
                              refine pure_ (i := 7) (N := some 148) (v := ?_) (a' := ?_) #[true, true, true, true, true, true, true, true, false, false, false, false, false, false, false, false, false] rfl rfl (any_of HT_.out (by kernel_rfl)) (fun _ _ _ h => h) (Or.inl ⟨by rfl, ?_⟩) ?_ ?_
                              rotate_left
                              · intro w'
                                go_simp
                                with_reducible rfl
                              rotate_left
                              · simp only [Act.put, List.setIfInBounds_toArray, List.set_cons_zero, List.set_cons_succ, i64_w, i32_w]
                                rfl
                              refine pure_ (i := 8) (N := some 149) (v := ?_) (a' := ?_) #[true, true, true, true, true, true, true, true, true, false, false, false, false, false, false, false, false] rfl rfl (any_of HT_.out (by kernel_rfl)) (fun _ _ _ h => h) (Or.inl ⟨by rfl, ?_⟩) ?_ ?_
                              rotate_left
                              · intro w'
                                go_simp
                                with_reducible rfl
                              rotate_left
                              · simp only [Act.put, List.setIfInBounds_toArray, List.set_cons_zero, List.set_cons_succ, i64_w, i32_w]
                                rfl
                              refine pure_ (i := 9) (N := some 150) (v := ?_) (a' := ?_) #[true, true, true, true, true, true, true, true, true, true, false, false, false, false, false, false, false] rfl rfl (any_of HT_.out (by kernel_rfl)) (fun _ _ _ h => h) (Or.inl ⟨by rfl, ?_⟩) ?_ ?_
                              rotate_left
                              · intro w'
                                go_simp
                                with_reducible rfl
                              rotate_left
                              · simp only [Act.put, List.setIfInBounds_toArray, List.set_cons_zero, List.set_cons_succ, i64_w, i32_w]
                                rfl
                              refine pure_ (i := 10) (N := some 151) (v := ?_) (a' := ?_) #[true, true, true, true, true, true, true, true, true, true, true, false, false, false, false, false, false] rfl rfl (any_of HT_.out (by kernel_rfl)) (fun _ _ _ h => h) (Or.inl ⟨by rfl, ?_⟩) ?_ ?_
                              rotate_left
                              · intro w'
                                go_simp
                                with_reducible rfl
                              rotate_left
                              · simp only [Act.put, List.setIfInBounds_toArray, List.set_cons_zero, List.set_cons_succ, i64_w, i32_w]
                                rfl
                              refine pure_ (i := 12) (N := some 153) (v := ?_) (a' := ?_) #[true, true, true, true, true, true, true, true, true, true, true, false, true, false, false, false, false] rfl rfl (any_of HT_.out (by kernel_rfl)) (fun _ _ _ h => h) (Or.inl ⟨by rfl, ?_⟩) ?_ ?_
                              rotate_left
                              · intro w'
                                go_simp
                                with_reducible rfl
                              rotate_left
                              · simp only [Act.put, List.setIfInBounds_toArray, List.set_cons_zero, List.set_cons_succ, i64_w, i32_w]
                                rfl
                              refine take_ (i := 13) (N := some 154) (v := ?_) (a' := ?_) #[true, true, true, true, true, true, true, true, true, true, true, false, true, true, false, false, false] rfl rfl (take_ofW HT_.out HW_.out (by kernel_rfl)) (fun _ _ _ h => h) (Or.inl ⟨by rfl, ?_⟩) hHeld ?_ ?_
                              rotate_left
                              · rintro w' ⟨s0, s1⟩
                                go_simp
                                with_reducible rfl
                              rotate_left
                              · simp only [Act.put, List.setIfInBounds_toArray, List.set_cons_zero, List.set_cons_succ, i64_w, i32_w]
                                rfl
                              refine pure_ (i := 14) (N := some 155) (v := ?_) (a' := ?_) #[true, true, true, true, true, true, true, true, true, true, true, false, true, true, true, false, false] rfl rfl (any_of HT_.out (by kernel_rfl)) (fun _ _ _ h => h) (Or.inl ⟨by rfl, ?_⟩) ?_ ?_
                              rotate_left
                              · intro w'
                                go_simp
                                with_reducible rfl
                              rotate_left
                              · simp only [Act.put, List.setIfInBounds_toArray, List.set_cons_zero, List.set_cons_succ, i64_w, i32_w]
                                rfl
                              refine one_ (i := 11) (N := some 152) #[true, true, true, true, true, true, true, true, true, true, true, true, true, true, true, false, false] rfl rfl (one_of HT_.out (by kernel_rfl)) (by decide) (fun K hK => ?_)
                              refine goes_ Try.func42 (by kernel_rfl) rfl #[.pointer (some ⟨g260, 0, none⟩)] (by rfl) rfl rfl (by (try simp only [List.map_toArray, List.map_cons, List.map_nil]); first | done | rfl | (simp only [List.length_drop, List.length_take]; rfl)) ?_
                              with_reducible refine (octet_Reader_Left.calls g260 t316 t317 t318 t319 t320 w _ ?side1 ?side2 A140.out).mono ?_
                              (case side1 => repeat (first | (with_reducible first | exact HI260.out | apply IsS113.alloc | apply IsS113.drewN | apply IsS113.drew | apply IsS113.set_0 | apply IsS113.set_1 | refine IsS113.far ?_ NB260_261.out _ | refine IsS113.far ?_ NB260_268.out _) | exact HI260.out))
                              (case side2 => repeat (first | (with_reducible first | exact HB.out | apply below_alloc | apply pw_below_drewN | apply below_drew1 | refine below_set ?_ (IsS113.ge HI260.out) | refine below_set ?_ GE261.out | refine below_set ?_ GE268.out) | exact HB.out))
                              rintro e w144 ⟨rfl, hi, hb, hk⟩
                              refine ⟨_, rfl, ?_⟩
                              have n0_ := Aside0.mk (KeepBut.blk hk (g' := gb261) (o := .cells #[.string x262000_16, .int .i64 x262001_16] 45 (0, 0)) (by (with_reducible repeat (first | refine blk_drewN ?_ _ | refine blk_drew ?_ | refine blk_alloc ?_ _)); exact BK261.out) NB261_260.out (by simp))
                              have n1_ := Aside0.mk (KeepBut.blk hk (g' := gb268) (o := .cells #[.int .i64 ((rd_T47 l1 x8_1).f0), .int .i64 ((rd_T47 l1 x8_1).f1)] 47 (0, 0)) (by (with_reducible repeat (first | refine blk_drewN ?_ _ | refine blk_drew ?_ | refine blk_alloc ?_ _)); exact BK268.out) NB268_260.out (by simp))
                              have n2_ := Aside0.mk (hb)
                              have n3_ := Aside0.mk (hi)
                              clear BK261
                              clear BK268
                              clear HB
                              clear HI260
                              have BK261 := n0_
                              have BK268 := n1_
                              have HB := n2_
                              have HI260 := n3_
                              clear n0_ n1_ n2_ n3_
                              (try clear hb)
                              (try clear hb2)
                              (try clear hk)
                              (try clear hi)
                              refine hK.out _ _ ⟨(blk_cell BK261.out 0).trans rfl, (blk_cell BK261.out 1).trans rfl⟩ (fun hHeld => ?_)
                              clear hK K
                              refine norm_ (a' := ?_) ?_ ?_
                              rotate_left
                              · show Act.put _ (some 152) _ = _
                                simp only [Act.put, List.setIfInBounds_toArray, List.set_cons_zero, List.set_cons_succ, i64_w, i32_w]
                                rfl
                              refine pure_ (i := 15) (N := some 156) (v := ?_) (a' := ?_) #[true, true, true, true, true, true, true, true, true, true, true, true, true, true, true, true, false] rfl rfl (any_of HT_.out (by kernel_rfl)) (fun _ _ _ h => h) (Or.inl ⟨by rfl, ?_⟩) ?_ ?_
                              rotate_left
                              · intro w'
                                go_simp
                                with_reducible rfl
                              rotate_left
                              · simp only [Act.put, List.setIfInBounds_toArray, List.set_cons_zero, List.set_cons_succ, i64_w, i32_w]
                                rfl
                              refine pure_ (i := 16) (N := some 157) (v := ?_) (a' := ?_) #[true, true, true, true, true, true, true, true, true, true, true, true, true, true, true, true, true] rfl rfl (any_of HT_.out (by kernel_rfl)) (fun _ _ _ h => h) (Or.inl ⟨by rfl, ?_⟩) ?_ ?_
                              rotate_left
                              · intro w'
                                go_simp
                                with_reducible rfl
                              rotate_left
                              · simp only [Act.put, List.setIfInBounds_toArray, List.set_cons_zero, List.set_cons_succ, i64_w, i32_w]
                                rfl
                              refine done_ (done_of HT_.out (by kernel_rfl)) ?_
                              try go_wp2
                              go_roundg kj16
                              case measure => have := HK1.out; have := HJ11.out; have := HJ16.out; omega
                              case rel => exact ⟨(wrap64 (x8_1 + 1)), (t319), (t320), (x262000_16), (x262001_16), (by first | rfl | (simp; done) | (simp [*]; done)), H', ⟨by have := HK1.out; have := HJ11.out; have := HJ16.out; omega⟩, ⟨by (with_reducible repeat (first | refine blk_drewN ?_ _ | refine blk_drew ?_ | refine blk_alloc ?_ _)); exact BK261.out⟩, ⟨by repeat (first | (with_reducible first | exact HI260.out | apply IsS113.alloc | apply IsS113.drewN | apply IsS113.drew | apply IsS113.set_0 | apply IsS113.set_1 | refine IsS113.far ?_ NB260_261.out _ | refine IsS113.far ?_ NB260_268.out _) | exact HI260.out)⟩, ⟨by repeat (first | (with_reducible first | exact HB.out | apply below_alloc | apply pw_below_drewN | apply below_drew1 | refine below_set ?_ (IsS113.ge HI260.out) | refine below_set ?_ GE261.out | refine below_set ?_ GE268.out) | exact HB.out)⟩⟩
                            · rw [if_neg c141] at H
                              have c141b0 : (t318 == (x262000_16.size : Int)) = false := beq_eq_false_iff_ne.mpr c141
                              have c141b1 : (t318 != (x262000_16.size : Int)) = true := bne_iff_ne.mpr c141
                              obtain rfl := Option.some.inj H
                              try go_wp2
                              have n0_ := Aside0.mk (blk_drew BK261.out)
                              have n1_ := Aside0.mk (blk_drew BK268.out)
                              have n2_ := Aside0.mk (IsS113.drew HI260.out)
                              have n3_ := Aside0.mk (below_drew1 HB.out)
                              clear BK261
                              clear BK268
                              clear HI260
                              clear HB
                              have BK261 := n0_
                              have BK268 := n1_
                              have HI260 := n2_
                              have HB := n3_
                              clear n0_ n1_ n2_ n3_
                              refine start_ (n := 17) (S := fun w' => w'.cell? ⟨gb261, 0, none⟩ = some (.string x262000_16) ∧ w'.cell? ⟨gb261, 1, none⟩ = some (.int .i64 x262001_16)) (ds := []) #[false, false, false, false, false, false, false, false, false, false, false, false, false, false, false, false, false] (by kernel_rfl) rfl rfl ⟨(blk_cell BK261.out 0).trans rfl, (blk_cell BK261.out 1).trans rfl⟩ (fun hHeld => ?_); refine with_tabW crosswaylaw03_OctetReads.tab29 crosswaylaw03_OctetReads.bits29 (fun HT_ HW_ => ?_)
                              generalize wc.drew = w145 at BK261 BK268 HI260 HB hHeld ⊢
                              refine pure_ (i := 0) (N := some 141) (v := ?_) (a' := ?_) #[true, false, false, false, false, false, false, false, false, false, false, false, false, false, false, false, false] rfl rfl (any_of HT_.out (by kernel_rfl)) (fun _ _ _ h => h) (Or.inl ⟨by rfl, ?_⟩) ?_ ?_
                              rotate_left
                              · intro w'
                                go_simp
                                with_reducible rfl
                              rotate_left
                              · simp only [Act.put, List.setIfInBounds_toArray, List.set_cons_zero, List.set_cons_succ, i64_w, i32_w]
                                rfl
                              refine pure_ (i := 1) (N := some 142) (v := ?_) (a' := ?_) #[true, true, false, false, false, false, false, false, false, false, false, false, false, false, false, false, false] rfl rfl (any_of HT_.out (by kernel_rfl)) (fun _ _ _ h => h) (Or.inl ⟨by rfl, ?_⟩) ?_ ?_
                              rotate_left
                              · intro w'
                                go_simp
                                with_reducible rfl
                              rotate_left
                              · simp only [Act.put, List.setIfInBounds_toArray, List.set_cons_zero, List.set_cons_succ, i64_w, i32_w]
                                rfl
                              refine pure_ (i := 2) (N := some 143) (v := ?_) (a' := ?_) #[true, true, true, false, false, false, false, false, false, false, false, false, false, false, false, false, false] rfl rfl (any_of HT_.out (by kernel_rfl)) (fun _ _ _ h => h) (Or.inl ⟨by rfl, ?_⟩) ?_ ?_
                              rotate_left
                              · intro w'
                                go_simp
                                with_reducible rfl
                              rotate_left
                              · simp only [Act.put, List.setIfInBounds_toArray, List.set_cons_zero, List.set_cons_succ, i64_w, i32_w]
                                rfl
                              refine pure_ (i := 3) (N := some 144) (v := ?_) (a' := ?_) #[true, true, true, true, false, false, false, false, false, false, false, false, false, false, false, false, false] rfl rfl (any_of HT_.out (by kernel_rfl)) (fun _ _ _ h => h) (Or.inl ⟨by rfl, ?_⟩) ?_ ?_
                              rotate_left
                              · intro w'
                                go_simp
                                with_reducible rfl
                              rotate_left
                              · simp only [Act.put, List.setIfInBounds_toArray, List.set_cons_zero, List.set_cons_succ, i64_w, i32_w]
                                rfl
                              refine pure_ (i := 5) (N := some 146) (v := ?_) (a' := ?_) #[true, true, true, true, false, true, false, false, false, false, false, false, false, false, false, false, false] rfl rfl (any_of HT_.out (by kernel_rfl)) (fun _ _ _ h => h) (Or.inl ⟨by rfl, ?_⟩) ?_ ?_
                              rotate_left
                              · intro w'
                                go_simp
                                with_reducible rfl
                              rotate_left
                              · simp only [Act.put, List.setIfInBounds_toArray, List.set_cons_zero, List.set_cons_succ, i64_w, i32_w]
                                rfl
                              refine take_ (i := 6) (N := some 147) (v := ?_) (a' := ?_) #[true, true, true, true, false, true, true, false, false, false, false, false, false, false, false, false, false] rfl rfl (take_ofW HT_.out HW_.out (by kernel_rfl)) (fun _ _ _ h => h) (Or.inl ⟨by rfl, ?_⟩) hHeld ?_ ?_
                              rotate_left
                              · rintro w' ⟨s0, s1⟩
                                go_simp
                                with_reducible rfl
                              rotate_left
                              · simp only [Act.put, List.setIfInBounds_toArray, List.set_cons_zero, List.set_cons_succ, i64_w, i32_w]
                                rfl
                              refine one_ (i := 4) (N := some 145) #[true, true, true, true, true, true, true, false, false, false, false, false, false, false, false, false, false] rfl rfl (one_of HT_.out (by kernel_rfl)) (by decide) (fun K hK => ?_)
                              refine goes_ Try.func41 (by kernel_rfl) rfl #[.pointer (some ⟨g260, 0, none⟩)] (by rfl) rfl rfl (by (try simp only [List.map_toArray, List.map_cons, List.map_nil]); first | done | rfl | (simp only [List.length_drop, List.length_take]; rfl)) ?_
                              with_reducible refine (octet_Reader_Err.calls g260 x261000_16 x261001_16 t315 t316 t317 w _ ?side1 ?side2 A138.out).mono ?_
                              (case side1 => repeat (first | (with_reducible first | exact HI260.out | apply IsS113.alloc | apply IsS113.drewN | apply IsS113.drew | apply IsS113.set_0 | apply IsS113.set_1 | refine IsS113.far ?_ NB260_261.out _ | refine IsS113.far ?_ NB260_268.out _) | exact HI260.out))
                              (case side2 => repeat (first | (with_reducible first | exact HB.out | apply below_alloc | apply pw_below_drewN | apply below_drew1 | refine below_set ?_ (IsS113.ge HI260.out) | refine below_set ?_ GE261.out | refine below_set ?_ GE268.out) | exact HB.out))
                              rintro e w146 ⟨rfl, hi, hb, hk⟩
                              refine ⟨_, rfl, ?_⟩
                              have n0_ := Aside0.mk (KeepBut.blk hk (g' := gb261) (o := .cells #[.string x262000_16, .int .i64 x262001_16] 45 (0, 0)) (by (with_reducible repeat (first | refine blk_drewN ?_ _ | refine blk_drew ?_ | refine blk_alloc ?_ _)); exact BK261.out) NB261_260.out (by simp))
                              have n1_ := Aside0.mk (KeepBut.blk hk (g' := gb268) (o := .cells #[.int .i64 ((rd_T47 l1 x8_1).f0), .int .i64 ((rd_T47 l1 x8_1).f1)] 47 (0, 0)) (by (with_reducible repeat (first | refine blk_drewN ?_ _ | refine blk_drew ?_ | refine blk_alloc ?_ _)); exact BK268.out) NB268_260.out (by simp))
                              have n2_ := Aside0.mk (hb)
                              have n3_ := Aside0.mk (hi)
                              clear BK261
                              clear BK268
                              clear HB
                              clear HI260
                              have BK261 := n0_
                              have BK268 := n1_
                              have HB := n2_
                              have HI260 := n3_
                              clear n0_ n1_ n2_ n3_
                              (try clear hb)
                              (try clear hb2)
                              (try clear hk)
                              (try clear hi)
                              refine hK.out _ _ ⟨(blk_cell BK261.out 0).trans rfl, (blk_cell BK261.out 1).trans rfl⟩ (fun hHeld => ?_)
                              clear hK K
                              refine norm_ (a' := ?_) ?_ ?_
                              rotate_left
                              · show Act.put _ (some 145) _ = _
                                simp only [Act.put, List.setIfInBounds_toArray, List.set_cons_zero, List.set_cons_succ, i64_w, i32_w]
                                rfl
                              refine pure_ (i := 7) (N := some 148) (v := ?_) (a' := ?_) #[true, true, true, true, true, true, true, true, false, false, false, false, false, false, false, false, false] rfl rfl (any_of HT_.out (by kernel_rfl)) (fun _ _ _ h => h) (Or.inl ⟨by rfl, ?_⟩) ?_ ?_
                              rotate_left
                              · intro w'
                                go_simp
                                with_reducible rfl
                              rotate_left
                              · simp only [Act.put, List.setIfInBounds_toArray, List.set_cons_zero, List.set_cons_succ, i64_w, i32_w]
                                rfl
                              refine pure_ (i := 8) (N := some 149) (v := ?_) (a' := ?_) #[true, true, true, true, true, true, true, true, true, false, false, false, false, false, false, false, false] rfl rfl (any_of HT_.out (by kernel_rfl)) (fun _ _ _ h => h) (Or.inl ⟨by rfl, ?_⟩) ?_ ?_
                              rotate_left
                              · intro w'
                                go_simp
                                with_reducible rfl
                              rotate_left
                              · simp only [Act.put, List.setIfInBounds_toArray, List.set_cons_zero, List.set_cons_succ, i64_w, i32_w]
                                rfl
                              refine pure_ (i := 9) (N := some 150) (v := ?_) (a' := ?_) #[true, true, true, true, true, true, true, true, true, true, false, false, false, false, false, false, false] rfl rfl (any_of HT_.out (by kernel_rfl)) (fun _ _ _ h => h) (Or.inl ⟨by rfl, ?_⟩) ?_ ?_
                              rotate_left
                              · intro w'
                                go_simp
                                with_reducible rfl
                              rotate_left
                              · simp only [Act.put, List.setIfInBounds_toArray, List.set_cons_zero, List.set_cons_succ, i64_w, i32_w]
                                rfl
                              refine pure_ (i := 10) (N := some 151) (v := ?_) (a' := ?_) #[true, true, true, true, true, true, true, true, true, true, true, false, false, false, false, false, false] rfl rfl (any_of HT_.out (by kernel_rfl)) (fun _ _ _ h => h) (Or.inl ⟨by rfl, ?_⟩) ?_ ?_
                              rotate_left
                              · intro w'
                                go_simp
                                with_reducible rfl
                              rotate_left
                              · simp only [Act.put, List.setIfInBounds_toArray, List.set_cons_zero, List.set_cons_succ, i64_w, i32_w]
                                rfl
                              refine pure_ (i := 12) (N := some 153) (v := ?_) (a' := ?_) #[true, true, true, true, true, true, true, true, true, true, true, false, true, false, false, false, false] rfl rfl (any_of HT_.out (by kernel_rfl)) (fun _ _ _ h => h) (Or.inl ⟨by rfl, ?_⟩) ?_ ?_
                              rotate_left
                              · intro w'
                                go_simp
                                with_reducible rfl
                              rotate_left
                              · simp only [Act.put, List.setIfInBounds_toArray, List.set_cons_zero, List.set_cons_succ, i64_w, i32_w]
                                rfl
                              refine take_ (i := 13) (N := some 154) (v := ?_) (a' := ?_) #[true, true, true, true, true, true, true, true, true, true, true, false, true, true, false, false, false] rfl rfl (take_ofW HT_.out HW_.out (by kernel_rfl)) (fun _ _ _ h => h) (Or.inl ⟨by rfl, ?_⟩) hHeld ?_ ?_
                              rotate_left
                              · rintro w' ⟨s0, s1⟩
                                go_simp
                                with_reducible rfl
                              rotate_left
                              · simp only [Act.put, List.setIfInBounds_toArray, List.set_cons_zero, List.set_cons_succ, i64_w, i32_w]
                                rfl
                              refine pure_ (i := 14) (N := some 155) (v := ?_) (a' := ?_) #[true, true, true, true, true, true, true, true, true, true, true, false, true, true, true, false, false] rfl rfl (any_of HT_.out (by kernel_rfl)) (fun _ _ _ h => h) (Or.inl ⟨by rfl, ?_⟩) ?_ ?_
                              rotate_left
                              · intro w'
                                go_simp
                                with_reducible rfl
                              rotate_left
                              · simp only [Act.put, List.setIfInBounds_toArray, List.set_cons_zero, List.set_cons_succ, i64_w, i32_w]
                                rfl
                              refine one_ (i := 11) (N := some 152) #[true, true, true, true, true, true, true, true, true, true, true, true, true, true, true, false, false] rfl rfl (one_of HT_.out (by kernel_rfl)) (by decide) (fun K hK => ?_)
                              refine goes_ Try.func42 (by kernel_rfl) rfl #[.pointer (some ⟨g260, 0, none⟩)] (by rfl) rfl rfl (by (try simp only [List.map_toArray, List.map_cons, List.map_nil]); first | done | rfl | (simp only [List.length_drop, List.length_take]; rfl)) ?_
                              with_reducible refine (octet_Reader_Left.calls g260 t316 t317 t318 t319 t320 w _ ?side1 ?side2 A140.out).mono ?_
                              (case side1 => repeat (first | (with_reducible first | exact HI260.out | apply IsS113.alloc | apply IsS113.drewN | apply IsS113.drew | apply IsS113.set_0 | apply IsS113.set_1 | refine IsS113.far ?_ NB260_261.out _ | refine IsS113.far ?_ NB260_268.out _) | exact HI260.out))
                              (case side2 => repeat (first | (with_reducible first | exact HB.out | apply below_alloc | apply pw_below_drewN | apply below_drew1 | refine below_set ?_ (IsS113.ge HI260.out) | refine below_set ?_ GE261.out | refine below_set ?_ GE268.out) | exact HB.out))
                              rintro e w147 ⟨rfl, hi, hb, hk⟩
                              refine ⟨_, rfl, ?_⟩
                              have n0_ := Aside0.mk (KeepBut.blk hk (g' := gb261) (o := .cells #[.string x262000_16, .int .i64 x262001_16] 45 (0, 0)) (by (with_reducible repeat (first | refine blk_drewN ?_ _ | refine blk_drew ?_ | refine blk_alloc ?_ _)); exact BK261.out) NB261_260.out (by simp))
                              have n1_ := Aside0.mk (KeepBut.blk hk (g' := gb268) (o := .cells #[.int .i64 ((rd_T47 l1 x8_1).f0), .int .i64 ((rd_T47 l1 x8_1).f1)] 47 (0, 0)) (by (with_reducible repeat (first | refine blk_drewN ?_ _ | refine blk_drew ?_ | refine blk_alloc ?_ _)); exact BK268.out) NB268_260.out (by simp))
                              have n2_ := Aside0.mk (hb)
                              have n3_ := Aside0.mk (hi)
                              clear BK261
                              clear BK268
                              clear HB
                              clear HI260
                              have BK261 := n0_
                              have BK268 := n1_
                              have HB := n2_
                              have HI260 := n3_
                              clear n0_ n1_ n2_ n3_
                              (try clear hb)
                              (try clear hb2)
                              (try clear hk)
                              (try clear hi)
                              refine hK.out _ _ ⟨(blk_cell BK261.out 0).trans rfl, (blk_cell BK261.out 1).trans rfl⟩ (fun hHeld => ?_)
                              clear hK K
                              refine norm_ (a' := ?_) ?_ ?_
                              rotate_left
                              · show Act.put _ (some 152) _ = _
                                simp only [Act.put, List.setIfInBounds_toArray, List.set_cons_zero, List.set_cons_succ, i64_w, i32_w]
                                rfl
                              refine pure_ (i := 15) (N := some 156) (v := ?_) (a' := ?_) #[true, true, true, true, true, true, true, true, true, true, true, true, true, true, true, true, false] rfl rfl (any_of HT_.out (by kernel_rfl)) (fun _ _ _ h => h) (Or.inl ⟨by rfl, ?_⟩) ?_ ?_
                              rotate_left
                              · intro w'
                                go_simp
                                with_reducible rfl
                              rotate_left
                              · simp only [Act.put, List.setIfInBounds_toArray, List.set_cons_zero, List.set_cons_succ, i64_w, i32_w]
                                rfl
                              refine pure_ (i := 16) (N := some 157) (v := ?_) (a' := ?_) #[true, true, true, true, true, true, true, true, true, true, true, true, true, true, true, true, true] rfl rfl (any_of HT_.out (by kernel_rfl)) (fun _ _ _ h => h) (Or.inl ⟨by rfl, ?_⟩) ?_ ?_
                              rotate_left
                              · intro w'
                                go_simp
                                with_reducible rfl
                              rotate_left
                              · simp only [Act.put, List.setIfInBounds_toArray, List.set_cons_zero, List.set_cons_succ, i64_w, i32_w]
                                rfl
                              refine done_ (done_of HT_.out (by kernel_rfl)) ?_
                              try go_wp2
                              go_ret
                              exact ⟨by first | rfl | (simp [errW_none, errW_some] <;> rfl) | (simp only [← hji3, ← hst6]; first | rfl | (simp [errW_none, errW_some] <;> rfl)) | (simp [*, errW_none, errW_some] <;> rfl), by repeat (first | (with_reducible first | exact HB.out | apply below_alloc | apply pw_below_drewN | apply below_drew1 | refine below_set ?_ (IsS113.ge HI260.out) | refine below_set ?_ GE261.out | refine below_set ?_ GE268.out) | exact HB.out)⟩
                          · rw [if_neg c139] at H
                            have c139b0 : (t315 == x262001_16) = false := beq_eq_false_iff_ne.mpr c139
                            have c139b1 : (t315 != x262001_16) = true := bne_iff_ne.mpr c139
                            obtain rfl := Option.some.inj H
                            try go_wp2
                            have n0_ := Aside0.mk (blk_drew BK261.out)
                            have n1_ := Aside0.mk (blk_drew BK268.out)
                            have n2_ := Aside0.mk (IsS113.drew HI260.out)
                            have n3_ := Aside0.mk (below_drew1 HB.out)
                            clear BK261
                            clear BK268
                            clear HI260
                            clear HB
                            have BK261 := n0_
                            have BK268 := n1_
                            have HI260 := n2_
                            have HB := n3_
                            clear n0_ n1_ n2_ n3_
                            refine start_ (n := 17) (S := fun w' => w'.cell? ⟨gb261, 0, none⟩ = some (.string x262000_16) ∧ w'.cell? ⟨gb261, 1, none⟩ = some (.int .i64 x262001_16)) (ds := []) #[false, false, false, false, false, false, false, false, false, false, false, false, false, false, false, false, false] (by kernel_rfl) rfl rfl ⟨(blk_cell BK261.out 0).trans rfl, (blk_cell BK261.out 1).trans rfl⟩ (fun hHeld => ?_); refine with_tabW crosswaylaw03_OctetReads.tab29 crosswaylaw03_OctetReads.bits29 (fun HT_ HW_ => ?_)
                            generalize wc.drew = w148 at BK261 BK268 HI260 HB hHeld ⊢
                            refine pure_ (i := 0) (N := some 141) (v := ?_) (a' := ?_) #[true, false, false, false, false, false, false, false, false, false, false, false, false, false, false, false, false] rfl rfl (any_of HT_.out (by kernel_rfl)) (fun _ _ _ h => h) (Or.inl ⟨by rfl, ?_⟩) ?_ ?_
                            rotate_left
                            · intro w'
                              go_simp
                              with_reducible rfl
                            rotate_left
                            · simp only [Act.put, List.setIfInBounds_toArray, List.set_cons_zero, List.set_cons_succ, i64_w, i32_w]
                              rfl
                            refine pure_ (i := 1) (N := some 142) (v := ?_) (a' := ?_) #[true, true, false, false, false, false, false, false, false, false, false, false, false, false, false, false, false] rfl rfl (any_of HT_.out (by kernel_rfl)) (fun _ _ _ h => h) (Or.inl ⟨by rfl, ?_⟩) ?_ ?_
                            rotate_left
                            · intro w'
                              go_simp
                              with_reducible rfl
                            rotate_left
                            · simp only [Act.put, List.setIfInBounds_toArray, List.set_cons_zero, List.set_cons_succ, i64_w, i32_w]
                              rfl
                            refine pure_ (i := 2) (N := some 143) (v := ?_) (a' := ?_) #[true, true, true, false, false, false, false, false, false, false, false, false, false, false, false, false, false] rfl rfl (any_of HT_.out (by kernel_rfl)) (fun _ _ _ h => h) (Or.inl ⟨by rfl, ?_⟩) ?_ ?_
                            rotate_left
                            · intro w'
                              go_simp
                              with_reducible rfl
                            rotate_left
                            · simp only [Act.put, List.setIfInBounds_toArray, List.set_cons_zero, List.set_cons_succ, i64_w, i32_w]
                              rfl
                            refine pure_ (i := 3) (N := some 144) (v := ?_) (a' := ?_) #[true, true, true, true, false, false, false, false, false, false, false, false, false, false, false, false, false] rfl rfl (any_of HT_.out (by kernel_rfl)) (fun _ _ _ h => h) (Or.inl ⟨by rfl, ?_⟩) ?_ ?_
                            rotate_left
                            · intro w'
                              go_simp
                              with_reducible rfl
                            rotate_left
                            · simp only [Act.put, List.setIfInBounds_toArray, List.set_cons_zero, List.set_cons_succ, i64_w, i32_w]
                              rfl
                            refine pure_ (i := 5) (N := some 146) (v := ?_) (a' := ?_) #[true, true, true, true, false, true, false, false, false, false, false, false, false, false, false, false, false] rfl rfl (any_of HT_.out (by kernel_rfl)) (fun _ _ _ h => h) (Or.inl ⟨by rfl, ?_⟩) ?_ ?_
                            rotate_left
                            · intro w'
                              go_simp
                              with_reducible rfl
                            rotate_left
                            · simp only [Act.put, List.setIfInBounds_toArray, List.set_cons_zero, List.set_cons_succ, i64_w, i32_w]
                              rfl
                            refine take_ (i := 6) (N := some 147) (v := ?_) (a' := ?_) #[true, true, true, true, false, true, true, false, false, false, false, false, false, false, false, false, false] rfl rfl (take_ofW HT_.out HW_.out (by kernel_rfl)) (fun _ _ _ h => h) (Or.inl ⟨by rfl, ?_⟩) hHeld ?_ ?_
                            rotate_left
                            · rintro w' ⟨s0, s1⟩
                              go_simp
                              with_reducible rfl
                            rotate_left
                            · simp only [Act.put, List.setIfInBounds_toArray, List.set_cons_zero, List.set_cons_succ, i64_w, i32_w]
                              rfl
                            refine one_ (i := 4) (N := some 145) #[true, true, true, true, true, true, true, false, false, false, false, false, false, false, false, false, false] rfl rfl (one_of HT_.out (by kernel_rfl)) (by decide) (fun K hK => ?_)
                            refine goes_ Try.func41 (by kernel_rfl) rfl #[.pointer (some ⟨g260, 0, none⟩)] (by rfl) rfl rfl (by (try simp only [List.map_toArray, List.map_cons, List.map_nil]); first | done | rfl | (simp only [List.length_drop, List.length_take]; rfl)) ?_
                            with_reducible refine (octet_Reader_Err.calls g260 x261000_16 x261001_16 t315 t316 t317 w _ ?side1 ?side2 A138.out).mono ?_
                            (case side1 => repeat (first | (with_reducible first | exact HI260.out | apply IsS113.alloc | apply IsS113.drewN | apply IsS113.drew | apply IsS113.set_0 | apply IsS113.set_1 | refine IsS113.far ?_ NB260_261.out _ | refine IsS113.far ?_ NB260_268.out _) | exact HI260.out))
                            (case side2 => repeat (first | (with_reducible first | exact HB.out | apply below_alloc | apply pw_below_drewN | apply below_drew1 | refine below_set ?_ (IsS113.ge HI260.out) | refine below_set ?_ GE261.out | refine below_set ?_ GE268.out) | exact HB.out))
                            rintro e w149 ⟨rfl, hi, hb, hk⟩
                            refine ⟨_, rfl, ?_⟩
                            have n0_ := Aside0.mk (KeepBut.blk hk (g' := gb261) (o := .cells #[.string x262000_16, .int .i64 x262001_16] 45 (0, 0)) (by (with_reducible repeat (first | refine blk_drewN ?_ _ | refine blk_drew ?_ | refine blk_alloc ?_ _)); exact BK261.out) NB261_260.out (by simp))
                            have n1_ := Aside0.mk (KeepBut.blk hk (g' := gb268) (o := .cells #[.int .i64 ((rd_T47 l1 x8_1).f0), .int .i64 ((rd_T47 l1 x8_1).f1)] 47 (0, 0)) (by (with_reducible repeat (first | refine blk_drewN ?_ _ | refine blk_drew ?_ | refine blk_alloc ?_ _)); exact BK268.out) NB268_260.out (by simp))
                            have n2_ := Aside0.mk (hb)
                            have n3_ := Aside0.mk (hi)
                            clear BK261
                            clear BK268
                            clear HB
                            clear HI260
                            have BK261 := n0_
                            have BK268 := n1_
                            have HB := n2_
                            have HI260 := n3_
                            clear n0_ n1_ n2_ n3_
                            (try clear hb)
                            (try clear hb2)
                            (try clear hk)
                            (try clear hi)
                            refine hK.out _ _ ⟨(blk_cell BK261.out 0).trans rfl, (blk_cell BK261.out 1).trans rfl⟩ (fun hHeld => ?_)
                            clear hK K
                            refine norm_ (a' := ?_) ?_ ?_
                            rotate_left
                            · show Act.put _ (some 145) _ = _
                              simp only [Act.put, List.setIfInBounds_toArray, List.set_cons_zero, List.set_cons_succ, i64_w, i32_w]
                              rfl
                            refine pure_ (i := 7) (N := some 148) (v := ?_) (a' := ?_) #[true, true, true, true, true, true, true, true, false, false, false, false, false, false, false, false, false] rfl rfl (any_of HT_.out (by kernel_rfl)) (fun _ _ _ h => h) (Or.inl ⟨by rfl, ?_⟩) ?_ ?_
                            rotate_left
                            · intro w'
                              go_simp
                              with_reducible rfl
                            rotate_left
                            · simp only [Act.put, List.setIfInBounds_toArray, List.set_cons_zero, List.set_cons_succ, i64_w, i32_w]
                              rfl
                            refine pure_ (i := 8) (N := some 149) (v := ?_) (a' := ?_) #[true, true, true, true, true, true, true, true, true, false, false, false, false, false, false, false, false] rfl rfl (any_of HT_.out (by kernel_rfl)) (fun _ _ _ h => h) (Or.inl ⟨by rfl, ?_⟩) ?_ ?_
                            rotate_left
                            · intro w'
                              go_simp
                              with_reducible rfl
                            rotate_left
                            · simp only [Act.put, List.setIfInBounds_toArray, List.set_cons_zero, List.set_cons_succ, i64_w, i32_w]
                              rfl
                            refine pure_ (i := 9) (N := some 150) (v := ?_) (a' := ?_) #[true, true, true, true, true, true, true, true, true, true, false, false, false, false, false, false, false] rfl rfl (any_of HT_.out (by kernel_rfl)) (fun _ _ _ h => h) (Or.inl ⟨by rfl, ?_⟩) ?_ ?_
                            rotate_left
                            · intro w'
                              go_simp
                              with_reducible rfl
                            rotate_left
                            · simp only [Act.put, List.setIfInBounds_toArray, List.set_cons_zero, List.set_cons_succ, i64_w, i32_w]
                              rfl
                            refine pure_ (i := 10) (N := some 151) (v := undef) (a' := ?_) #[true, true, true, true, true, true, true, true, true, true, true, false, false, false, false, false, false] rfl rfl (any_of HT_.out (by kernel_rfl)) (fun _ _ _ h => h) (Or.inr ⟨by rfl, rfl⟩) ?_ ?_
                            rotate_left
                            · simp only [Act.put, List.setIfInBounds_toArray, List.set_cons_zero, List.set_cons_succ, i64_w, i32_w]
                              rfl
                            refine pure_ (i := 11) (N := some 152) (v := undef) (a' := ?_) #[true, true, true, true, true, true, true, true, true, true, true, true, false, false, false, false, false] rfl rfl (any_of HT_.out (by kernel_rfl)) (fun _ _ _ h => h) (Or.inr ⟨by rfl, rfl⟩) ?_ ?_
                            rotate_left
                            · simp only [Act.put, List.setIfInBounds_toArray, List.set_cons_zero, List.set_cons_succ, i64_w, i32_w]
                              rfl
                            refine pure_ (i := 12) (N := some 153) (v := undef) (a' := ?_) #[true, true, true, true, true, true, true, true, true, true, true, true, true, false, false, false, false] rfl rfl (any_of HT_.out (by kernel_rfl)) (fun _ _ _ h => h) (Or.inr ⟨by rfl, rfl⟩) ?_ ?_
                            rotate_left
                            · simp only [Act.put, List.setIfInBounds_toArray, List.set_cons_zero, List.set_cons_succ, i64_w, i32_w]
                              rfl
                            refine pure_ (i := 13) (N := some 154) (v := undef) (a' := ?_) #[true, true, true, true, true, true, true, true, true, true, true, true, true, true, false, false, false] rfl rfl (any_of HT_.out (by kernel_rfl)) (fun _ _ _ h => h) (Or.inr ⟨by rfl, rfl⟩) ?_ ?_
                            rotate_left
                            · simp only [Act.put, List.setIfInBounds_toArray, List.set_cons_zero, List.set_cons_succ, i64_w, i32_w]
                              rfl
                            refine pure_ (i := 14) (N := some 155) (v := undef) (a' := ?_) #[true, true, true, true, true, true, true, true, true, true, true, true, true, true, true, false, false] rfl rfl (any_of HT_.out (by kernel_rfl)) (fun _ _ _ h => h) (Or.inr ⟨by rfl, rfl⟩) ?_ ?_
                            rotate_left
                            · simp only [Act.put, List.setIfInBounds_toArray, List.set_cons_zero, List.set_cons_succ, i64_w, i32_w]
                              rfl
                            refine pure_ (i := 15) (N := some 156) (v := undef) (a' := ?_) #[true, true, true, true, true, true, true, true, true, true, true, true, true, true, true, true, false] rfl rfl (any_of HT_.out (by kernel_rfl)) (fun _ _ _ h => h) (Or.inr ⟨by rfl, rfl⟩) ?_ ?_
                            rotate_left
                            · simp only [Act.put, List.setIfInBounds_toArray, List.set_cons_zero, List.set_cons_succ, i64_w, i32_w]
                              rfl
                            refine pure_ (i := 16) (N := some 157) (v := ?_) (a' := ?_) #[true, true, true, true, true, true, true, true, true, true, true, true, true, true, true, true, true] rfl rfl (any_of HT_.out (by kernel_rfl)) (fun _ _ _ h => h) (Or.inl ⟨by rfl, ?_⟩) ?_ ?_
                            rotate_left
                            · intro w'
                              go_simp
                              with_reducible rfl
                            rotate_left
                            · simp only [Act.put, List.setIfInBounds_toArray, List.set_cons_zero, List.set_cons_succ, i64_w, i32_w]
                              rfl
                            refine done_ (done_of HT_.out (by kernel_rfl)) ?_
                            try go_wp2
                            go_ret
                            exact ⟨by first | rfl | (simp [errW_none, errW_some] <;> rfl) | (simp only [← hji3, ← hst6]; first | rfl | (simp [errW_none, errW_some] <;> rfl)) | (simp [*, errW_none, errW_some] <;> rfl), by repeat (first | (with_reducible first | exact HB.out | apply below_alloc | apply pw_below_drewN | apply below_drew1 | refine below_set ?_ (IsS113.ge HI260.out) | refine below_set ?_ GE261.out | refine below_set ?_ GE268.out) | exact HB.out)⟩
                        · replace c137 := Bool.eq_false_iff.mpr c137
                          subst c137
                          have H1 : (some false) = some r := by rw [if_neg (show ¬ (false = true) by decide)] at H; exact H
                          clear H
                          have H := H1
                          clear H1
                          obtain rfl := Option.some.inj H
                          try go_wp2
                          have n0_ := Aside0.mk (blk_drew BK261.out)
                          have n1_ := Aside0.mk (blk_drew BK268.out)
                          have n2_ := Aside0.mk (IsS113.drew HI260.out)
                          have n3_ := Aside0.mk (below_drew1 HB.out)
                          clear BK261
                          clear BK268
                          clear HI260
                          clear HB
                          have BK261 := n0_
                          have BK268 := n1_
                          have HI260 := n2_
                          have HB := n3_
                          clear n0_ n1_ n2_ n3_
                          refine start_ (n := 17) (S := fun w' => True) (ds := []) #[false, false, false, false, false, false, false, false, false, false, false, false, false, false, false, false, false] (by kernel_rfl) rfl rfl trivial (fun hHeld => ?_); refine with_tabW crosswaylaw03_OctetReads.tab29 crosswaylaw03_OctetReads.bits29 (fun HT_ HW_ => ?_)
                          generalize wc.drew = w150 at BK261 BK268 HI260 HB hHeld ⊢
                          refine pure_ (i := 0) (N := some 141) (v := ?_) (a' := ?_) #[true, false, false, false, false, false, false, false, false, false, false, false, false, false, false, false, false] rfl rfl (any_of HT_.out (by kernel_rfl)) (fun _ _ _ h => h) (Or.inl ⟨by rfl, ?_⟩) ?_ ?_
                          rotate_left
                          · intro w'
                            go_simp
                            with_reducible rfl
                          rotate_left
                          · simp only [Act.put, List.setIfInBounds_toArray, List.set_cons_zero, List.set_cons_succ, i64_w, i32_w]
                            rfl
                          refine pure_ (i := 1) (N := some 142) (v := ?_) (a' := ?_) #[true, true, false, false, false, false, false, false, false, false, false, false, false, false, false, false, false] rfl rfl (any_of HT_.out (by kernel_rfl)) (fun _ _ _ h => h) (Or.inl ⟨by rfl, ?_⟩) ?_ ?_
                          rotate_left
                          · intro w'
                            go_simp
                            with_reducible rfl
                          rotate_left
                          · simp only [Act.put, List.setIfInBounds_toArray, List.set_cons_zero, List.set_cons_succ, i64_w, i32_w]
                            rfl
                          refine pure_ (i := 2) (N := some 143) (v := ?_) (a' := ?_) #[true, true, true, false, false, false, false, false, false, false, false, false, false, false, false, false, false] rfl rfl (any_of HT_.out (by kernel_rfl)) (fun _ _ _ h => h) (Or.inl ⟨by rfl, ?_⟩) ?_ ?_
                          rotate_left
                          · intro w'
                            go_simp
                            with_reducible rfl
                          rotate_left
                          · simp only [Act.put, List.setIfInBounds_toArray, List.set_cons_zero, List.set_cons_succ, i64_w, i32_w]
                            rfl
                          refine pure_ (i := 3) (N := some 144) (v := undef) (a' := ?_) #[true, true, true, true, false, false, false, false, false, false, false, false, false, false, false, false, false] rfl rfl (any_of HT_.out (by kernel_rfl)) (fun _ _ _ h => h) (Or.inr ⟨by rfl, rfl⟩) ?_ ?_
                          rotate_left
                          · simp only [Act.put, List.setIfInBounds_toArray, List.set_cons_zero, List.set_cons_succ, i64_w, i32_w]
                            rfl
                          refine pure_ (i := 4) (N := some 145) (v := undef) (a' := ?_) #[true, true, true, true, true, false, false, false, false, false, false, false, false, false, false, false, false] rfl rfl (any_of HT_.out (by kernel_rfl)) (fun _ _ _ h => h) (Or.inr ⟨by rfl, rfl⟩) ?_ ?_
                          rotate_left
                          · simp only [Act.put, List.setIfInBounds_toArray, List.set_cons_zero, List.set_cons_succ, i64_w, i32_w]
                            rfl
                          refine pure_ (i := 5) (N := some 146) (v := undef) (a' := ?_) #[true, true, true, true, true, true, false, false, false, false, false, false, false, false, false, false, false] rfl rfl (any_of HT_.out (by kernel_rfl)) (fun _ _ _ h => h) (Or.inr ⟨by rfl, rfl⟩) ?_ ?_
                          rotate_left
                          · simp only [Act.put, List.setIfInBounds_toArray, List.set_cons_zero, List.set_cons_succ, i64_w, i32_w]
                            rfl
                          refine pure_ (i := 6) (N := some 147) (v := undef) (a' := ?_) #[true, true, true, true, true, true, true, false, false, false, false, false, false, false, false, false, false] rfl rfl (any_of HT_.out (by kernel_rfl)) (fun _ _ _ h => h) (Or.inr ⟨by rfl, rfl⟩) ?_ ?_
                          rotate_left
                          · simp only [Act.put, List.setIfInBounds_toArray, List.set_cons_zero, List.set_cons_succ, i64_w, i32_w]
                            rfl
                          refine pure_ (i := 7) (N := some 148) (v := undef) (a' := ?_) #[true, true, true, true, true, true, true, true, false, false, false, false, false, false, false, false, false] rfl rfl (any_of HT_.out (by kernel_rfl)) (fun _ _ _ h => h) (Or.inr ⟨by rfl, rfl⟩) ?_ ?_
                          rotate_left
                          · simp only [Act.put, List.setIfInBounds_toArray, List.set_cons_zero, List.set_cons_succ, i64_w, i32_w]
                            rfl
                          refine pure_ (i := 8) (N := some 149) (v := ?_) (a' := ?_) #[true, true, true, true, true, true, true, true, true, false, false, false, false, false, false, false, false] rfl rfl (any_of HT_.out (by kernel_rfl)) (fun _ _ _ h => h) (Or.inl ⟨by rfl, ?_⟩) ?_ ?_
                          rotate_left
                          · intro w'
                            go_simp
                            with_reducible rfl
                          rotate_left
                          · simp only [Act.put, List.setIfInBounds_toArray, List.set_cons_zero, List.set_cons_succ, i64_w, i32_w]
                            rfl
                          refine pure_ (i := 9) (N := some 150) (v := ?_) (a' := ?_) #[true, true, true, true, true, true, true, true, true, true, false, false, false, false, false, false, false] rfl rfl (any_of HT_.out (by kernel_rfl)) (fun _ _ _ h => h) (Or.inl ⟨by rfl, ?_⟩) ?_ ?_
                          rotate_left
                          · intro w'
                            go_simp
                            with_reducible rfl
                          rotate_left
                          · simp only [Act.put, List.setIfInBounds_toArray, List.set_cons_zero, List.set_cons_succ, i64_w, i32_w]
                            rfl
                          refine pure_ (i := 10) (N := some 151) (v := undef) (a' := ?_) #[true, true, true, true, true, true, true, true, true, true, true, false, false, false, false, false, false] rfl rfl (any_of HT_.out (by kernel_rfl)) (fun _ _ _ h => h) (Or.inr ⟨by rfl, rfl⟩) ?_ ?_
                          rotate_left
                          · simp only [Act.put, List.setIfInBounds_toArray, List.set_cons_zero, List.set_cons_succ, i64_w, i32_w]
                            rfl
                          refine pure_ (i := 11) (N := some 152) (v := undef) (a' := ?_) #[true, true, true, true, true, true, true, true, true, true, true, true, false, false, false, false, false] rfl rfl (any_of HT_.out (by kernel_rfl)) (fun _ _ _ h => h) (Or.inr ⟨by rfl, rfl⟩) ?_ ?_
                          rotate_left
                          · simp only [Act.put, List.setIfInBounds_toArray, List.set_cons_zero, List.set_cons_succ, i64_w, i32_w]
                            rfl
                          refine pure_ (i := 12) (N := some 153) (v := undef) (a' := ?_) #[true, true, true, true, true, true, true, true, true, true, true, true, true, false, false, false, false] rfl rfl (any_of HT_.out (by kernel_rfl)) (fun _ _ _ h => h) (Or.inr ⟨by rfl, rfl⟩) ?_ ?_
                          rotate_left
                          · simp only [Act.put, List.setIfInBounds_toArray, List.set_cons_zero, List.set_cons_succ, i64_w, i32_w]
                            rfl
                          refine pure_ (i := 13) (N := some 154) (v := undef) (a' := ?_) #[true, true, true, true, true, true, true, true, true, true, true, true, true, true, false, false, false] rfl rfl (any_of HT_.out (by kernel_rfl)) (fun _ _ _ h => h) (Or.inr ⟨by rfl, rfl⟩) ?_ ?_
                          rotate_left
                          · simp only [Act.put, List.setIfInBounds_toArray, List.set_cons_zero, List.set_cons_succ, i64_w, i32_w]
                            rfl
                          refine pure_ (i := 14) (N := some 155) (v := undef) (a' := ?_) #[true, true, true, true, true, true, true, true, true, true, true, true, true, true, true, false, false] rfl rfl (any_of HT_.out (by kernel_rfl)) (fun _ _ _ h => h) (Or.inr ⟨by rfl, rfl⟩) ?_ ?_
                          rotate_left
                          · simp only [Act.put, List.setIfInBounds_toArray, List.set_cons_zero, List.set_cons_succ, i64_w, i32_w]
                            rfl
                          refine pure_ (i := 15) (N := some 156) (v := undef) (a' := ?_) #[true, true, true, true, true, true, true, true, true, true, true, true, true, true, true, true, false] rfl rfl (any_of HT_.out (by kernel_rfl)) (fun _ _ _ h => h) (Or.inr ⟨by rfl, rfl⟩) ?_ ?_
                          rotate_left
                          · simp only [Act.put, List.setIfInBounds_toArray, List.set_cons_zero, List.set_cons_succ, i64_w, i32_w]
                            rfl
                          refine pure_ (i := 16) (N := some 157) (v := ?_) (a' := ?_) #[true, true, true, true, true, true, true, true, true, true, true, true, true, true, true, true, true] rfl rfl (any_of HT_.out (by kernel_rfl)) (fun _ _ _ h => h) (Or.inl ⟨by rfl, ?_⟩) ?_ ?_
                          rotate_left
                          · intro w'
                            go_simp
                            with_reducible rfl
                          rotate_left
                          · simp only [Act.put, List.setIfInBounds_toArray, List.set_cons_zero, List.set_cons_succ, i64_w, i32_w]
                            rfl
                          refine done_ (done_of HT_.out (by kernel_rfl)) ?_
                          try go_wp2
                          go_ret
                          exact ⟨by first | rfl | (simp [errW_none, errW_some] <;> rfl) | (simp only [← hji3, ← hst6]; first | rfl | (simp [errW_none, errW_some] <;> rfl)) | (simp [*, errW_none, errW_some] <;> rfl), by repeat (first | (with_reducible first | exact HB.out | apply below_alloc | apply pw_below_drewN | apply below_drew1 | refine below_set ?_ (IsS113.ge HI260.out) | refine below_set ?_ GE261.out | refine below_set ?_ GE268.out) | exact HB.out)⟩
                  · rw [if_neg c16] at H
                    exact absurd H (by simp)
                · rw [if_neg c15] at H
                  exact absurd H (by simp)
              · replace c14 := Bool.eq_false_iff.mpr c14
                subst c14
                have H1 : ((crosswaylaw03_awake.f kj11).bind fun t262 => (if t262 = true then ((octet_Reader_End.f kj11 x261000_1 x261001_1).bind fun bt263 => ((crosswayref03_R_End.f x262000_1 x262001_1).bind fun t266 => (some (bt263.1 == t266)))) else (some false))) = some r := by rw [if_neg (show ¬ (false = true) by decide)] at H; exact H
                clear H
                have H := H1
                clear H1
                replace H := Option.bind_eq_some_iff.mp H
                obtain ⟨t262, A1510, H⟩ := H
                replace H : (if t262 = true then ((octet_Reader_End.f kj11 x261000_1 x261001_1).bind fun bt263 => ((crosswayref03_R_End.f x262000_1 x262001_1).bind fun t266 => (some (bt263.1 == t266)))) else (some false)) = some r := H
                have A151 := Aside0.mk A1510
                clear A1510
                by_cases c152 : t262 = true
                · subst c152
                  have H1 : ((octet_Reader_End.f kj11 x261000_1 x261001_1).bind fun bt263 => ((crosswayref03_R_End.f x262000_1 x262001_1).bind fun t266 => (some (bt263.1 == t266)))) = some r := by rw [if_pos rfl] at H; exact H
                  clear H
                  have H := H1
                  clear H1
                  replace H := Option.bind_eq_some_iff.mp H
                  obtain ⟨⟨t263, t264, t265⟩, A1530, H⟩ := H
                  replace H : ((crosswayref03_R_End.f x262000_1 x262001_1).bind fun t266 => (some (t263 == t266))) = some r := H
                  have A153 := Aside0.mk A1530
                  clear A1530
                  replace H := Option.bind_eq_some_iff.mp H
                  obtain ⟨t266, A1540, H⟩ := H
                  replace H : (some (t263 == t266)) = some r := H
                  have A154 := Aside0.mk A1540
                  clear A1540
                  obtain rfl := Option.some.inj H
                  try go_wp2
                  have n0_ := Aside0.mk (blk_drew BK261.out)
                  have n1_ := Aside0.mk (IsS113.drew HI260.out)
                  have n2_ := Aside0.mk (below_drew1 HB.out)
                  clear BK261
                  clear HI260
                  clear HB
                  have BK261 := n0_
                  have HI260 := n1_
                  have HB := n2_
                  clear n0_ n1_ n2_
                  refine start_ (n := 9) (S := fun w' => w'.cell? ⟨gb261, 0, none⟩ = some (.string x262000_1) ∧ w'.cell? ⟨gb261, 1, none⟩ = some (.int .i64 x262001_1)) (ds := []) #[false, false, false, false, false, false, false, false, false] (by kernel_rfl) rfl rfl ⟨(blk_cell BK261.out 0).trans rfl, (blk_cell BK261.out 1).trans rfl⟩ (fun hHeld => ?_); refine with_tabW crosswaylaw03_OctetReads.tab31 crosswaylaw03_OctetReads.bits31 (fun HT_ HW_ => ?_)
                  generalize wc.drew = w155 at BK261 HI260 HB hHeld ⊢
                  refine one_ (i := 0) (N := some 158) #[true, false, false, false, false, false, false, false, false] rfl rfl (one_of HT_.out (by kernel_rfl)) (by decide) (fun K hK => ?_)
                  refine goes_ Try.func22 (by kernel_rfl) rfl #[] (by rfl) rfl rfl (by (try simp only [List.map_toArray, List.map_cons, List.map_nil]); first | done | rfl | (simp only [List.length_drop, List.length_take]; rfl)) ?_
                  with_reducible refine (crosswaylaw03_awake.calls kj11  true _ A151.out).mono ?_
                  rintro e w156 ⟨rfl, hb⟩
                  refine ⟨_, rfl, ?_⟩
                  have n0_ := Aside0.mk (blk_below (g := gb261) (o := .cells #[.string x262000_1, .int .i64 x262001_1] 45 (0, 0)) (by (with_reducible repeat (first | refine blk_drewN ?_ _ | refine blk_drew ?_ | refine blk_alloc ?_ _)); exact BK261.out) hb)
                  have n1_ := Aside0.mk (IsS113.below (by repeat (first | (with_reducible first | exact HI260.out | apply IsS113.alloc | apply IsS113.drewN | apply IsS113.drew | apply IsS113.set_0 | apply IsS113.set_1 | refine IsS113.far ?_ NB260_261.out _) | exact HI260.out)) hb)
                  have n2_ := Aside0.mk (below_step (by repeat (first | (with_reducible first | exact HB.out | apply below_alloc | apply pw_below_drewN | apply below_drew1 | refine below_set ?_ (IsS113.ge HI260.out) | refine below_set ?_ GE261.out) | exact HB.out)) hb)
                  clear BK261
                  clear HI260
                  clear HB
                  have BK261 := n0_
                  have HI260 := n1_
                  have HB := n2_
                  clear n0_ n1_ n2_
                  (try clear hb)
                  (try clear hb2)
                  (try clear hk)
                  (try clear hi)
                  refine hK.out _ _ ⟨(blk_cell BK261.out 0).trans rfl, (blk_cell BK261.out 1).trans rfl⟩ (fun hHeld => ?_)
                  clear hK K
                  refine norm_ (a' := ?_) ?_ ?_
                  rotate_left
                  · show Act.put _ (some 158) _ = _
                    simp only [Act.put, List.setIfInBounds_toArray, List.set_cons_zero, List.set_cons_succ, i64_w, i32_w]
                    rfl
                  refine pure_ (i := 1) (N := some 159) (v := ?_) (a' := ?_) #[true, true, false, false, false, false, false, false, false] rfl rfl (any_of HT_.out (by kernel_rfl)) (fun _ _ _ h => h) (Or.inl ⟨by rfl, ?_⟩) ?_ ?_
                  rotate_left
                  · intro w'
                    go_simp
                    with_reducible rfl
                  rotate_left
                  · simp only [Act.put, List.setIfInBounds_toArray, List.set_cons_zero, List.set_cons_succ, i64_w, i32_w]
                    rfl
                  refine pure_ (i := 2) (N := some 160) (v := ?_) (a' := ?_) #[true, true, true, false, false, false, false, false, false] rfl rfl (any_of HT_.out (by kernel_rfl)) (fun _ _ _ h => h) (Or.inl ⟨by rfl, ?_⟩) ?_ ?_
                  rotate_left
                  · intro w'
                    go_simp
                    with_reducible rfl
                  rotate_left
                  · simp only [Act.put, List.setIfInBounds_toArray, List.set_cons_zero, List.set_cons_succ, i64_w, i32_w]
                    rfl
                  refine take_ (i := 4) (N := some 162) (v := ?_) (a' := ?_) #[true, true, true, false, true, false, false, false, false] rfl rfl (take_ofW HT_.out HW_.out (by kernel_rfl)) (fun _ _ _ h => h) (Or.inl ⟨by rfl, ?_⟩) hHeld ?_ ?_
                  rotate_left
                  · rintro w' ⟨s0, s1⟩
                    go_simp
                    with_reducible rfl
                  rotate_left
                  · simp only [Act.put, List.setIfInBounds_toArray, List.set_cons_zero, List.set_cons_succ, i64_w, i32_w]
                    rfl
                  refine one_ (i := 3) (N := some 161) #[true, true, true, true, true, false, false, false, false] rfl rfl (one_of HT_.out (by kernel_rfl)) (by decide) (fun K hK => ?_)
                  refine goes_ Try.func43 (by kernel_rfl) rfl #[.pointer (some ⟨g260, 0, none⟩)] (by rfl) rfl rfl (by (try simp only [List.map_toArray, List.map_cons, List.map_nil]); first | done | rfl | (simp only [List.length_drop, List.length_take]; rfl)) ?_
                  with_reducible refine (octet_Reader_End.calls kj11 g260 x261000_1 x261001_1 t263 t264 t265 w _ ?side1 ?side2 A153.out).mono ?_
                  (case side1 => repeat (first | (with_reducible first | exact HI260.out | apply IsS113.alloc | apply IsS113.drewN | apply IsS113.drew | apply IsS113.set_0 | apply IsS113.set_1 | refine IsS113.far ?_ NB260_261.out _) | exact HI260.out))
                  (case side2 => repeat (first | (with_reducible first | exact HB.out | apply below_alloc | apply pw_below_drewN | apply below_drew1 | refine below_set ?_ (IsS113.ge HI260.out) | refine below_set ?_ GE261.out) | exact HB.out))
                  rintro e w157 ⟨rfl, hi, hb, hk⟩
                  refine ⟨_, rfl, ?_⟩
                  have n0_ := Aside0.mk (KeepBut.blk hk (g' := gb261) (o := .cells #[.string x262000_1, .int .i64 x262001_1] 45 (0, 0)) (by (with_reducible repeat (first | refine blk_drewN ?_ _ | refine blk_drew ?_ | refine blk_alloc ?_ _)); exact BK261.out) NB261_260.out (by simp))
                  have n1_ := Aside0.mk (hb)
                  have n2_ := Aside0.mk (hi)
                  clear BK261
                  clear HB
                  clear HI260
                  have BK261 := n0_
                  have HB := n1_
                  have HI260 := n2_
                  clear n0_ n1_ n2_
                  (try clear hb)
                  (try clear hb2)
                  (try clear hk)
                  (try clear hi)
                  refine hK.out _ _ ⟨(blk_cell BK261.out 0).trans rfl, (blk_cell BK261.out 1).trans rfl⟩ (fun hHeld => ?_)
                  clear hK K
                  refine norm_ (a' := ?_) ?_ ?_
                  rotate_left
                  · show Act.put _ (some 161) _ = _
                    simp only [Act.put, List.setIfInBounds_toArray, List.set_cons_zero, List.set_cons_succ, i64_w, i32_w]
                    rfl
                  refine one_ (i := 5) (N := some 163) #[true, true, true, true, true, true, false, false, false] rfl rfl (one_of HT_.out (by kernel_rfl)) (by decide) (fun K hK => ?_)
                  refine goes_ Try.func44 (by kernel_rfl) rfl #[.agg #[.string x262000_1, .int .i64 x262001_1]] (by rfl) rfl rfl (by (try simp only [List.map_toArray, List.map_cons, List.map_nil]); first | done | rfl | (simp only [List.length_drop, List.length_take]; rfl)) ?_
                  with_reducible refine (crosswayref03_R_End.calls x262000_1 x262001_1 t266 _ A154.out).mono ?_
                  rintro e w158 ⟨rfl, hb⟩
                  refine ⟨_, rfl, ?_⟩
                  have n0_ := Aside0.mk (blk_below (g := gb261) (o := .cells #[.string x262000_1, .int .i64 x262001_1] 45 (0, 0)) (by (with_reducible repeat (first | refine blk_drewN ?_ _ | refine blk_drew ?_ | refine blk_alloc ?_ _)); exact BK261.out) hb)
                  have n1_ := Aside0.mk (IsS113.below (by repeat (first | (with_reducible first | exact HI260.out | apply IsS113.alloc | apply IsS113.drewN | apply IsS113.drew | apply IsS113.set_0 | apply IsS113.set_1 | refine IsS113.far ?_ NB260_261.out _) | exact HI260.out)) hb)
                  have n2_ := Aside0.mk (below_step (by repeat (first | (with_reducible first | exact HB.out | apply below_alloc | apply pw_below_drewN | apply below_drew1 | refine below_set ?_ (IsS113.ge HI260.out) | refine below_set ?_ GE261.out) | exact HB.out)) hb)
                  clear BK261
                  clear HI260
                  clear HB
                  have BK261 := n0_
                  have HI260 := n1_
                  have HB := n2_
                  clear n0_ n1_ n2_
                  (try clear hb)
                  (try clear hb2)
                  (try clear hk)
                  (try clear hi)
                  refine hK.out _ _ ⟨(blk_cell BK261.out 0).trans rfl, (blk_cell BK261.out 1).trans rfl⟩ (fun hHeld => ?_)
                  clear hK K
                  refine norm_ (a' := ?_) ?_ ?_
                  rotate_left
                  · show Act.put _ (some 163) _ = _
                    simp only [Act.put, List.setIfInBounds_toArray, List.set_cons_zero, List.set_cons_succ, i64_w, i32_w]
                    rfl
                  refine pure_ (i := 6) (N := some 164) (v := ?_) (a' := ?_) #[true, true, true, true, true, true, true, false, false] rfl rfl (any_of HT_.out (by kernel_rfl)) (fun _ _ _ h => h) (Or.inl ⟨by rfl, ?_⟩) ?_ ?_
                  rotate_left
                  · intro w'
                    go_simp
                    with_reducible rfl
                  rotate_left
                  · simp only [Act.put, List.setIfInBounds_toArray, List.set_cons_zero, List.set_cons_succ, i64_w, i32_w]
                    rfl
                  refine pure_ (i := 7) (N := some 165) (v := ?_) (a' := ?_) #[true, true, true, true, true, true, true, true, false] rfl rfl (any_of HT_.out (by kernel_rfl)) (fun _ _ _ h => h) (Or.inl ⟨by rfl, ?_⟩) ?_ ?_
                  rotate_left
                  · intro w'
                    go_simp
                    with_reducible rfl
                  rotate_left
                  · simp only [Act.put, List.setIfInBounds_toArray, List.set_cons_zero, List.set_cons_succ, i64_w, i32_w]
                    rfl
                  refine pure_ (i := 8) (N := some 4) (v := ?_) (a' := ?_) #[true, true, true, true, true, true, true, true, true] rfl rfl (any_of HT_.out (by kernel_rfl)) (fun _ _ _ h => h) (Or.inl ⟨by rfl, ?_⟩) ?_ ?_
                  rotate_left
                  · intro w'
                    go_simp
                    with_reducible rfl
                  rotate_left
                  · simp only [Act.put, List.setIfInBounds_toArray, List.set_cons_zero, List.set_cons_succ, i64_w, i32_w]
                    rfl
                  refine done_ (done_of HT_.out (by kernel_rfl)) ?_
                  try go_wp2
                  go_ret
                  exact ⟨by first | rfl | (simp [errW_none, errW_some] <;> rfl) | (simp only [← hji3, ← hst6]; first | rfl | (simp [errW_none, errW_some] <;> rfl)) | (simp [*, errW_none, errW_some] <;> rfl), by repeat (first | (with_reducible first | exact HB.out | apply below_alloc | apply pw_below_drewN | apply below_drew1 | refine below_set ?_ (IsS113.ge HI260.out) | refine below_set ?_ GE261.out) | exact HB.out)⟩
                · replace c152 := Bool.eq_false_iff.mpr c152
                  subst c152
                  have H1 : (some false) = some r := by rw [if_neg (show ¬ (false = true) by decide)] at H; exact H
                  clear H
                  have H := H1
                  clear H1
                  obtain rfl := Option.some.inj H
                  try go_wp2
                  have n0_ := Aside0.mk (blk_drew BK261.out)
                  have n1_ := Aside0.mk (IsS113.drew HI260.out)
                  have n2_ := Aside0.mk (below_drew1 HB.out)
                  clear BK261
                  clear HI260
                  clear HB
                  have BK261 := n0_
                  have HI260 := n1_
                  have HB := n2_
                  clear n0_ n1_ n2_
                  refine start_ (n := 9) (S := fun w' => True) (ds := []) #[false, false, false, false, false, false, false, false, false] (by kernel_rfl) rfl rfl trivial (fun hHeld => ?_); refine with_tabW crosswaylaw03_OctetReads.tab31 crosswaylaw03_OctetReads.bits31 (fun HT_ HW_ => ?_)
                  generalize wc.drew = w159 at BK261 HI260 HB hHeld ⊢
                  refine one_ (i := 0) (N := some 158) #[true, false, false, false, false, false, false, false, false] rfl rfl (one_of HT_.out (by kernel_rfl)) (by decide) (fun K hK => ?_)
                  refine goes_ Try.func22 (by kernel_rfl) rfl #[] (by rfl) rfl rfl (by (try simp only [List.map_toArray, List.map_cons, List.map_nil]); first | done | rfl | (simp only [List.length_drop, List.length_take]; rfl)) ?_
                  with_reducible refine (crosswaylaw03_awake.calls kj11  false _ A151.out).mono ?_
                  rintro e w160 ⟨rfl, hb⟩
                  refine ⟨_, rfl, ?_⟩
                  have n0_ := Aside0.mk (blk_below (g := gb261) (o := .cells #[.string x262000_1, .int .i64 x262001_1] 45 (0, 0)) (by (with_reducible repeat (first | refine blk_drewN ?_ _ | refine blk_drew ?_ | refine blk_alloc ?_ _)); exact BK261.out) hb)
                  have n1_ := Aside0.mk (IsS113.below (by repeat (first | (with_reducible first | exact HI260.out | apply IsS113.alloc | apply IsS113.drewN | apply IsS113.drew | apply IsS113.set_0 | apply IsS113.set_1 | refine IsS113.far ?_ NB260_261.out _) | exact HI260.out)) hb)
                  have n2_ := Aside0.mk (below_step (by repeat (first | (with_reducible first | exact HB.out | apply below_alloc | apply pw_below_drewN | apply below_drew1 | refine below_set ?_ (IsS113.ge HI260.out) | refine below_set ?_ GE261.out) | exact HB.out)) hb)
                  clear BK261
                  clear HI260
                  clear HB
                  have BK261 := n0_
                  have HI260 := n1_
                  have HB := n2_
                  clear n0_ n1_ n2_
                  (try clear hb)
                  (try clear hb2)
                  (try clear hk)
                  (try clear hi)
                  refine hK.out _ _ trivial (fun hHeld => ?_)
                  clear hK K
                  refine norm_ (a' := ?_) ?_ ?_
                  rotate_left
                  · show Act.put _ (some 158) _ = _
                    simp only [Act.put, List.setIfInBounds_toArray, List.set_cons_zero, List.set_cons_succ, i64_w, i32_w]
                    rfl
                  refine pure_ (i := 1) (N := some 159) (v := ?_) (a' := ?_) #[true, true, false, false, false, false, false, false, false] rfl rfl (any_of HT_.out (by kernel_rfl)) (fun _ _ _ h => h) (Or.inl ⟨by rfl, ?_⟩) ?_ ?_
                  rotate_left
                  · intro w'
                    go_simp
                    with_reducible rfl
                  rotate_left
                  · simp only [Act.put, List.setIfInBounds_toArray, List.set_cons_zero, List.set_cons_succ, i64_w, i32_w]
                    rfl
                  refine pure_ (i := 2) (N := some 160) (v := undef) (a' := ?_) #[true, true, true, false, false, false, false, false, false] rfl rfl (any_of HT_.out (by kernel_rfl)) (fun _ _ _ h => h) (Or.inr ⟨by rfl, rfl⟩) ?_ ?_
                  rotate_left
                  · simp only [Act.put, List.setIfInBounds_toArray, List.set_cons_zero, List.set_cons_succ, i64_w, i32_w]
                    rfl
                  refine pure_ (i := 3) (N := some 161) (v := undef) (a' := ?_) #[true, true, true, true, false, false, false, false, false] rfl rfl (any_of HT_.out (by kernel_rfl)) (fun _ _ _ h => h) (Or.inr ⟨by rfl, rfl⟩) ?_ ?_
                  rotate_left
                  · simp only [Act.put, List.setIfInBounds_toArray, List.set_cons_zero, List.set_cons_succ, i64_w, i32_w]
                    rfl
                  refine pure_ (i := 4) (N := some 162) (v := undef) (a' := ?_) #[true, true, true, true, true, false, false, false, false] rfl rfl (any_of HT_.out (by kernel_rfl)) (fun _ _ _ h => h) (Or.inr ⟨by rfl, rfl⟩) ?_ ?_
                  rotate_left
                  · simp only [Act.put, List.setIfInBounds_toArray, List.set_cons_zero, List.set_cons_succ, i64_w, i32_w]
                    rfl
                  refine pure_ (i := 5) (N := some 163) (v := undef) (a' := ?_) #[true, true, true, true, true, true, false, false, false] rfl rfl (any_of HT_.out (by kernel_rfl)) (fun _ _ _ h => h) (Or.inr ⟨by rfl, rfl⟩) ?_ ?_
                  rotate_left
                  · simp only [Act.put, List.setIfInBounds_toArray, List.set_cons_zero, List.set_cons_succ, i64_w, i32_w]
                    rfl
                  refine pure_ (i := 6) (N := some 164) (v := undef) (a' := ?_) #[true, true, true, true, true, true, true, false, false] rfl rfl (any_of HT_.out (by kernel_rfl)) (fun _ _ _ h => h) (Or.inr ⟨by rfl, rfl⟩) ?_ ?_
                  rotate_left
                  · simp only [Act.put, List.setIfInBounds_toArray, List.set_cons_zero, List.set_cons_succ, i64_w, i32_w]
                    rfl
                  refine pure_ (i := 7) (N := some 165) (v := ?_) (a' := ?_) #[true, true, true, true, true, true, true, true, false] rfl rfl (any_of HT_.out (by kernel_rfl)) (fun _ _ _ h => h) (Or.inl ⟨by rfl, ?_⟩) ?_ ?_
                  rotate_left
                  · intro w'
                    go_simp
                    with_reducible rfl
                  rotate_left
                  · simp only [Act.put, List.setIfInBounds_toArray, List.set_cons_zero, List.set_cons_succ, i64_w, i32_w]
                    rfl
                  refine pure_ (i := 8) (N := some 4) (v := ?_) (a' := ?_) #[true, true, true, true, true, true, true, true, true] rfl rfl (any_of HT_.out (by kernel_rfl)) (fun _ _ _ h => h) (Or.inl ⟨by rfl, ?_⟩) ?_ ?_
                  rotate_left
                  · intro w'
                    go_simp
                    with_reducible rfl
                  rotate_left
                  · simp only [Act.put, List.setIfInBounds_toArray, List.set_cons_zero, List.set_cons_succ, i64_w, i32_w]
                    rfl
                  refine done_ (done_of HT_.out (by kernel_rfl)) ?_
                  try go_wp2
                  go_ret
                  exact ⟨by first | rfl | (simp [errW_none, errW_some] <;> rfl) | (simp only [← hji3, ← hst6]; first | rfl | (simp [errW_none, errW_some] <;> rfl)) | (simp [*, errW_none, errW_some] <;> rfl), by repeat (first | (with_reducible first | exact HB.out | apply below_alloc | apply pw_below_drewN | apply below_drew1 | refine below_set ?_ (IsS113.ge HI260.out) | refine below_set ?_ GE261.out) | exact HB.out)⟩
    · rw [if_neg c5] at H
      exact absurd H (by simp)
  · rw [if_neg c4] at H
    exact absurd H (by simp)

end Go.Proofs.Ytmdncojhnbbafaa.PAll
