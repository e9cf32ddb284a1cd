/- Rs1: walks through functions of the program, by the calculus; written by a program of this workplace. -/
import Derived.Test.YtmepflkodjdgdaaIns
import Derived.Test.YtmepflkodjdgdaaVm6
namespace Go.Proofs.Ytmepflkodjdgdaa.Vt
open Go Go.Proofs Go.Proofs.YtmepflkodjdgdaaV
set_option maxRecDepth 100000
set_option linter.unusedVariables false
set_option linter.unusedSimpArgs false
structure Prt where
  fl : Fin 8
  tsn : BitVec 32
  st : Nat
  ssn : Nat
  proto : BitVec 32
  data : ByteArray
deriving DecidableEq
def dPrt : Prt := ⟨0, 0#32, 0, 0, 0#32, ByteArray.empty⟩
abbrev cPrt (e : Prt) : List Value := [(.int .i64 0), (.int .i64 ((e.fl.val : Nat) : Int)), (W e.tsn), (.int .i64 ((e.st : Nat) : Int)), (.int .i64 ((e.ssn : Nat) : Int)), (W e.proto), (.string e.data), (.int .u32 0), (.int .u32 0), (.int .i64 0), (.int .i64 0), (.slice none 0 0), (.slice none 0 0), (.slice none 0 0), (.slice none 0 0)]
abbrev oPrt (l : List Prt) : AObj := ⟨l.map cPrt, 15, 54, true⟩
structure Msg where
  st : Int
  ssn : Int
  loose : Bool
  proto : BitVec 32
  data : ByteArray
deriving DecidableEq
def dMsg : Msg := ⟨0, 0, false, 0#32, ByteArray.empty⟩
abbrev cMsg (e : Msg) : List Value := [(.int .i64 e.st), (.int .i64 e.ssn), (.bool e.loose), (W e.proto), (.string e.data)]
abbrev oMsg (l : List Msg) : AObj := ⟨l.map cMsg, 5, 29, true⟩
structure Bo where
  z : Bool
deriving DecidableEq
def dBo : Bo := ⟨false⟩
abbrev cBo (e : Bo) : List Value := [(.bool e.z)]
abbrev oBo (l : List Bo) : AObj := ⟨l.map cBo, 1, 4, true⟩
def idxZ {α : Type} (p : α → Bool) (l : List α) : Int := if l.findIdx p < l.length then ((l.findIdx p : Nat) : Int) else -1
theorem fi_le {α : Type} {p : α → Bool} {l : List α} : l.findIdx p ≤ l.length := List.findIdx_le_length
theorem fi_found {α : Type} {d : α} {p : α → Bool} {l : List α} {i : Nat} (h : i < l.length) (hp : p (l.getD i d) = true) (hi : i ≤ l.findIdx p) : l.findIdx p = i := by
  rcases Nat.lt_or_ge i (l.findIdx p) with h1 | h1
  · have := List.not_of_lt_findIdx h1
    rw [List.getD_eq_getElem?_getD, List.getElem?_eq_getElem h] at hp
    simp only [Option.getD_some] at hp
    rw [hp] at this; simp at this
  · omega
theorem fi_step {α : Type} {d : α} {p : α → Bool} {l : List α} {i : Nat} (h : i < l.length) (hp : ¬ p (l.getD i d) = true) (hi : i ≤ l.findIdx p) : i + 1 ≤ l.findIdx p := by
  rcases Nat.lt_or_ge i (l.findIdx p) with h1 | h1
  · omega
  · exfalso; apply hp
    have e : l.findIdx p = i := by omega
    have h2 : l.findIdx p < l.length := by omega
    have h3 := List.findIdx_getElem (p := p) (xs := l) (w := h2)
    rw [List.getD_eq_getElem?_getD, List.getElem?_eq_getElem h]
    simp only [Option.getD_some]
    simpa only [e] using h3
theorem fi_any {α : Type} {p : α → Bool} {l : List α} : decide (l.findIdx p < l.length) = l.any p := by
  rw [Bool.eq_iff_iff, decide_eq_true_eq, List.findIdx_lt_length, List.any_eq_true]
theorem idxZ_any {α : Type} {p : α → Bool} {l : List α} : decide (idxZ p l ≥ 0) = l.any p := by
  rw [← fi_any]; unfold idxZ
  split <;> rename_i h
  · rw [decide_eq_true h, decide_eq_true (by omega)]
  · rw [decide_eq_false h, decide_eq_false (by omega)]
def isE (x : Prt) : Prop := x.fl.val % 2 = 1
def isB (x : Prt) : Prop := x.fl.val / 2 % 2 = 1
instance (x : Prt) : Decidable (isE x) := by unfold isE; infer_instance
instance (x : Prt) : Decidable (isB x) := by unfold isB; infer_instance
def alike (x y : Prt) : Prop := x.st = y.st ∧ x.ssn = y.ssn ∧ x.fl.val / 4 % 2 = y.fl.val / 4 % 2
instance (x y : Prt) : Decidable (alike x y) := by unfold alike; infer_instance
def fits (x y : Prt) : Prop := y.tsn = x.tsn + 1#32 ∧ alike x y ∧ ¬ isE x ∧ ¬ isB y
instance (x y : Prt) : Decidable (fits x y) := by unfold fits; infer_instance
def fromL (l : List Prt) : Nat → Option Nat
  | 0 => if isB (l.getD 0 dPrt) then some 0 else none
  | f + 1 => if isB (l.getD (f + 1) dPrt) then some (f + 1) else if fits (l.getD f dPrt) (l.getD (f + 1) dPrt) then fromL l f else none
def toL (l : List Prt) : Nat → Nat → Option Nat
  | 0, _ => none
  | k + 1, t => if isE (l.getD t dPrt) then some t else if t + 1 = l.length then none else if fits (l.getD t dPrt) (l.getD (t + 1) dPrt) then toL l k (t + 1) else none
def atL (l : List Prt) (t : BitVec 32) : Option Prt := l.find? (fun x => decide (x.tsn = t))
def refB (l : List Prt) : Nat → Prt → Option Prt
  | 0, x => some x
  | k + 1, x => if isB x then some x else match atL l (x.tsn - 1#32) with
    | none => none
    | some y => if isE y ∨ ¬ alike y x then none else refB l k y
def refF (l : List Prt) : Nat → Prt → ByteArray → Option (Prt × ByteArray)
  | 0, x, d => some (x, d)
  | k + 1, x, d => if isE x then some (x, d) else match atL l (x.tsn + 1#32) with
    | none => none
    | some y => if isB y ∨ ¬ alike y x then none else refF l k y (d ++ y.data)
def dcat (d : ByteArray) (l : List Prt) : ByteArray := l.foldl (fun a x => a ++ x.data) d
def far (t : BitVec 32) (x : Prt) : Nat := (x.tsn - t).toNat
def srt (t : BitVec 32) (l : List Prt) : Prop := l.Pairwise (fun x y => far t x < far t y) ∧ ∀ x ∈ l, far t x < 64
theorem far_inj {t : BitVec 32} {x y : Prt} (h : far t x = far t y) : x.tsn = y.tsn := by
  unfold far at h
  have h2 : x.tsn - t = y.tsn - t := BitVec.eq_of_toNat_eq h
  have h3 := congrArg (· + t) h2
  simpa using h3
theorem far_eq {t : BitVec 32} {x y : Prt} (h : x.tsn = y.tsn) : far t x = far t y := by unfold far; rw [h]
theorem far_dif {t : BitVec 32} (x y : Prt) : (x.tsn - y.tsn).toNat = (far t x + 4294967296 - far t y) % 4294967296 := by
  unfold far
  have h1 := x.tsn.isLt
  have h2 := y.tsn.isLt
  have h3 := t.isLt
  rw [BitVec.toNat_sub, BitVec.toNat_sub, BitVec.toNat_sub]
  omega
theorem far_next {t : BitVec 32} {x y : Prt} (hx : far t x < 64) (hy : far t y < 64) : y.tsn = x.tsn + 1#32 ↔ far t y = far t x + 1 := by
  constructor
  · intro h
    have h1 := far_dif (t := t) y x
    rw [h] at h1
    have h2 : (x.tsn + 1#32 - x.tsn).toNat = 1 := by
      rw [BitVec.add_comm, BitVec.add_sub_cancel]; rfl
    omega
  · intro h
    have h1 := far_dif (t := t) y x
    have h2 : (y.tsn - x.tsn).toNat = 1 := by omega
    have h3 : y.tsn - x.tsn = 1#32 := BitVec.eq_of_toNat_eq h2
    rw [← h3, BitVec.add_comm, BitVec.sub_add_cancel]
theorem prev_iff {x y : Prt} : y.tsn = x.tsn - 1#32 ↔ x.tsn = y.tsn + 1#32 := by
  constructor
  · intro h; rw [h, BitVec.sub_add_cancel]
  · intro h; rw [h, BitVec.add_sub_cancel]
theorem get_d {l : List Prt} {i : Nat} (h : i < l.length) : l.getD i dPrt = l[i] := by rw [List.getD_eq_getElem?_getD, List.getElem?_eq_getElem h]; rfl
theorem srt_lt {t : BitVec 32} {l : List Prt} (h : srt t l) {i j : Nat} (hij : i < j) (hj : j < l.length) : far t (l.getD i dPrt) < far t (l.getD j dPrt) := by
  rw [get_d (by omega), get_d hj]
  exact List.pairwise_iff_getElem.1 h.1 i j (by omega) hj hij
theorem srt_mem {l : List Prt} {x : Prt} (hx : x ∈ l) : ∃ i, i < l.length ∧ l.getD i dPrt = x := by
  obtain ⟨i, hi, rfl⟩ := List.getElem_of_mem hx
  exact ⟨i, hi, get_d hi⟩
theorem srt_far {t : BitVec 32} {l : List Prt} (h : srt t l) {i : Nat} (hi : i < l.length) : far t (l.getD i dPrt) < 64 := h.2 _ (getD_mem hi)
theorem srt_uniq {t : BitVec 32} {l : List Prt} (h : srt t l) {x y : Prt} (hx : x ∈ l) (hy : y ∈ l) (he : x.tsn = y.tsn) : x = y := by
  obtain ⟨i, hi, rfl⟩ := srt_mem hx
  obtain ⟨j, hj, rfl⟩ := srt_mem hy
  have h1 := far_eq (t := t) he
  rcases Nat.lt_trichotomy i j with h2 | h2 | h2
  · have := srt_lt h h2 hj; omega
  · rw [h2]
  · have := srt_lt h h2 hi; omega
theorem at_some {t : BitVec 32} {l all : List Prt} (h : srt t l) (hm : ∀ x, x ∈ all ↔ x ∈ l) {u : BitVec 32} {y : Prt} (hy : y ∈ l) (hu : y.tsn = u) : atL all u = some y := by
  unfold atL
  cases hf : all.find? (fun x => decide (x.tsn = u)) with
  | none =>
    have := List.find?_eq_none.1 hf y ((hm y).2 hy)
    simp [hu] at this
  | some z =>
    have h1 := List.find?_some hf
    have h2 := List.mem_of_find?_eq_some hf
    rw [srt_uniq h ((hm z).1 h2) hy ((of_decide_eq_true h1).trans hu.symm)]
theorem at_mem {l all : List Prt} (hm : ∀ x, x ∈ all ↔ x ∈ l) {u : BitVec 32} {y : Prt} (h : atL all u = some y) : y ∈ l ∧ y.tsn = u :=
  ⟨(hm y).1 (List.mem_of_find?_eq_some h), of_decide_eq_true (List.find?_some (p := fun x : Prt => decide (x.tsn = u)) h)⟩
theorem prev_is {t : BitVec 32} {l : List Prt} (h : srt t l) {f : Nat} (hf : f + 1 < l.length) {y : Prt} (hy : y ∈ l) (he : (l.getD (f + 1) dPrt).tsn = y.tsn + 1#32) : y = l.getD f dPrt := by
  obtain ⟨j, hj, rfl⟩ := srt_mem hy
  have h1 := (far_next (srt_far h hj) (srt_far h hf)).1 he
  have h2 : j < f + 1 := by
    rcases Nat.lt_or_ge j (f + 1) with h3 | h3
    · exact h3
    · rcases Nat.lt_or_eq_of_le h3 with h4 | h4
      · have := srt_lt h h4 hj; omega
      · rw [← h4] at h1; omega
  rcases Nat.lt_or_ge j f with h3 | h3
  · have h4 := srt_lt h h3 (by omega)
    have h5 := srt_lt h (show f < f + 1 by omega) hf
    omega
  · rw [show j = f by omega]
theorem prev_no {t : BitVec 32} {l : List Prt} (h : srt t l) (hl : 0 < l.length) {y : Prt} (hy : y ∈ l) : ¬ (l.getD 0 dPrt).tsn = y.tsn + 1#32 := by
  intro he
  obtain ⟨j, hj, rfl⟩ := srt_mem hy
  have h1 := (far_next (srt_far h hj) (srt_far h hl)).1 he
  rcases Nat.eq_zero_or_pos j with h2 | h2
  · rw [h2] at h1; omega
  · have := srt_lt h h2 hj; omega
theorem next_is {t : BitVec 32} {l : List Prt} (h : srt t l) {f : Nat} (hf : f < l.length) {y : Prt} (hy : y ∈ l) (he : y.tsn = (l.getD f dPrt).tsn + 1#32) : f + 1 < l.length ∧ y = l.getD (f + 1) dPrt := by
  obtain ⟨j, hj, rfl⟩ := srt_mem hy
  have h1 := (far_next (srt_far h hf) (srt_far h hj)).1 he
  have h2 : f < j := by
    rcases Nat.lt_or_ge f j with h3 | h3
    · exact h3
    · rcases Nat.lt_or_eq_of_le h3 with h4 | h4
      · have := srt_lt h h4 hf; omega
      · rw [h4] at h1; omega
  refine ⟨by omega, ?_⟩
  rcases Nat.lt_or_ge (f + 1) j with h3 | h3
  · have h4 := srt_lt h h3 hj
    have h5 := srt_lt h (show f < f + 1 by omega) (by omega)
    omega
  · rw [show j = f + 1 by omega]
theorem refB_eq {t : BitVec 32} {l all : List Prt} (h : srt t l) (hm : ∀ x, x ∈ all ↔ x ∈ l) : ∀ (f k : Nat), f < l.length → f + 1 ≤ k → refB all k (l.getD f dPrt) = (fromL l f).map (fun g => l.getD g dPrt) := by
  intro f
  induction f with
  | zero =>
    intro k hf hk
    cases k with
    | zero => omega
    | succ k =>
      unfold refB fromL
      by_cases hb : isB (l.getD 0 dPrt)
      · rw [if_pos hb, if_pos hb]; rfl
      · rw [if_neg hb, if_neg hb]
        cases ha : atL all ((l.getD 0 dPrt).tsn - 1#32) with
        | none => rfl
        | some y =>
          obtain ⟨h1, h2⟩ := at_mem hm ha
          exact absurd (prev_iff.1 h2) (prev_no h hf h1)
  | succ f ih =>
    intro k hf hk
    cases k with
    | zero => omega
    | succ k =>
      unfold refB fromL
      by_cases hb : isB (l.getD (f + 1) dPrt)
      · rw [if_pos hb, if_pos hb]; rfl
      · rw [if_neg hb, if_neg hb]
        by_cases hfit : fits (l.getD f dPrt) (l.getD (f + 1) dPrt)
        · rw [if_pos hfit, at_some h hm (getD_mem (by omega)) (prev_iff.2 hfit.1)]
          simp only
          rw [if_neg (fun hh => hh.elim hfit.2.2.1 (fun g => g hfit.2.1))]
          exact ih k (by omega) (by omega)
        · rw [if_neg hfit]
          cases ha : atL all ((l.getD (f + 1) dPrt).tsn - 1#32) with
          | none => rfl
          | some y =>
            obtain ⟨h1, h2⟩ := at_mem hm ha
            have h3 := prev_is h hf h1 (prev_iff.1 h2)
            subst h3
            simp only
            rw [if_pos]
            · rfl
            · by_cases he : isE (l.getD f dPrt)
              · exact .inl he
              · exact .inr (fun g => hfit ⟨prev_iff.1 h2, g, he, hb⟩)
theorem toL_ge {l : List Prt} : ∀ {k t u : Nat}, toL l k t = some u → t ≤ u ∧ (t < l.length → u < l.length)
  | 0, t, u, h => by cases h
  | k + 1, t, u, h => by
    unfold toL at h
    split at h
    · cases h; exact ⟨Nat.le_refl _, id⟩
    · split at h
      · cases h
      · split at h
        · have := toL_ge h; exact ⟨by omega, fun g => this.2 (by omega)⟩
        · cases h
theorem seg_cons {l : List Prt} {t u : Nat} (h1 : t + 1 ≤ u) (h2 : u < l.length) : (l.drop (t + 1)).take (u - t) = l.getD (t + 1) dPrt :: (l.drop (t + 2)).take (u - (t + 1)) := by
  rw [List.drop_eq_getElem_cons (by omega), show u - t = (u - (t + 1)) + 1 by omega, List.take_succ_cons, get_d (by omega)]
theorem refF_eq {t : BitVec 32} {l all : List Prt} (h : srt t l) (hm : ∀ x, x ∈ all ↔ x ∈ l) : ∀ (m f k : Nat) (d : ByteArray), f < l.length → m = l.length - f → m ≤ k → refF all k (l.getD f dPrt) d = (toL l m f).map (fun u => (l.getD u dPrt, dcat d ((l.drop (f + 1)).take (u - f)))) := by
  intro m
  induction m with
  | zero => intro f k d hf hm0; omega
  | succ m ih =>
    intro f k d hf hm0 hk
    cases k with
    | zero => omega
    | succ k =>
      unfold refF toL
      by_cases he : isE (l.getD f dPrt)
      · rw [if_pos he, if_pos he]
        simp [dcat]
      · rw [if_neg he, if_neg he]
        by_cases hlast : f + 1 = l.length
        · rw [if_pos hlast]
          cases ha : atL all ((l.getD f dPrt).tsn + 1#32) with
          | none => rfl
          | some y =>
            obtain ⟨h1, h2⟩ := at_mem hm ha
            have := (next_is h hf h1 h2).1
            omega
        · rw [if_neg hlast]
          by_cases hfit : fits (l.getD f dPrt) (l.getD (f + 1) dPrt)
          · rw [if_pos hfit, at_some h hm (getD_mem (by omega)) hfit.1]
            simp only
            rw [if_neg (fun hh => hh.elim hfit.2.2.2 (fun g => g ⟨hfit.2.1.1.symm, hfit.2.1.2.1.symm, hfit.2.1.2.2.symm⟩))]
            rw [ih (f + 1) k _ (by omega) (by omega) (by omega)]
            cases hu : toL l m (f + 1) with
            | none => rfl
            | some u =>
              have h3 := toL_ge hu
              simp only [Option.map_some]
              rw [seg_cons h3.1 (h3.2 (by omega))]
              rfl
          · rw [if_neg hfit]
            cases ha : atL all ((l.getD f dPrt).tsn + 1#32) with
            | none => rfl
            | some y =>
              obtain ⟨h1, h2⟩ := at_mem hm ha
              have h3 := (next_is h hf h1 h2).2
              subst h3
              simp only
              rw [if_pos]
              · rfl
              · by_cases hb : isB (l.getD (f + 1) dPrt)
                · exact .inl hb
                · exact .inr (fun g => hfit ⟨h2, ⟨g.1.symm, g.2.1.symm, g.2.2.symm⟩, he, hb⟩)
theorem from_to {l : List Prt} : ∀ {i g : Nat}, i < l.length → fromL l i = some g → g ≤ i ∧ toL l (l.length - g) g = toL l (l.length - i) i
  | 0, g, hi, h => by
    unfold fromL at h
    split at h
    · cases h; exact ⟨Nat.le_refl _, rfl⟩
    · cases h
  | f + 1, g, hi, h => by
    unfold fromL at h
    split at h
    · cases h; exact ⟨Nat.le_refl _, rfl⟩
    · split at h
      · rename_i hfit
        obtain ⟨h1, h2⟩ := from_to (by omega) h
        refine ⟨by omega, h2.trans ?_⟩
        rw [show l.length - f = (l.length - (f + 1)) + 1 by omega]
        conv => lhs; unfold toL
        rw [if_neg hfit.2.2.1, if_neg (by omega), if_pos hfit]
      · cases h
def keepP (a b x : Prt) : Bool := decide ((b.tsn - a.tsn).toNat < (x.tsn - a.tsn).toNat)
theorem keep_eq {t : BitVec 32} {l : List Prt} (h : srt t l) {g u : Nat} (hg : g ≤ u) (hu : u < l.length) : l.filter (keepP (l.getD g dPrt) (l.getD u dPrt)) = l.take g ++ l.drop (u + 1) := by
  have e : l = l.take g ++ ((l.drop g).take (u + 1 - g) ++ l.drop (u + 1)) := by
    conv => lhs; rw [← List.take_append_drop g l]
    congr 1
    conv => lhs; rw [← List.take_append_drop (u + 1 - g) (l.drop g), List.drop_drop, show g + (u + 1 - g) = u + 1 by omega]
  have hgu : far t (l.getD g dPrt) ≤ far t (l.getD u dPrt) := by
    rcases Nat.lt_or_eq_of_le hg with h1 | h1
    · exact Nat.le_of_lt (srt_lt h h1 hu)
    · rw [h1]; exact Nat.le_refl _
  have f1 := srt_far h (show g < l.length by omega)
  have f2 := srt_far h hu
  have d1 := far_dif (t := t) (l.getD u dPrt) (l.getD g dPrt)
  have key : ∀ j, j < l.length → keepP (l.getD g dPrt) (l.getD u dPrt) (l.getD j dPrt) = decide (j < g ∨ u < j) := by
    intro j hj
    unfold keepP
    have d2 := far_dif (t := t) (l.getD j dPrt) (l.getD g dPrt)
    have f3 := srt_far h hj
    refine decide_eq_decide.2 ?_
    rw [d1, d2]
    constructor
    · intro hh
      rcases Nat.lt_or_ge j g with h4 | h4
      · exact .inl h4
      · right
        rcases Nat.lt_or_ge u j with h5 | h5
        · exact h5
        · have a1 : far t (l.getD g dPrt) ≤ far t (l.getD j dPrt) := by
            rcases Nat.lt_or_eq_of_le h4 with h6 | h6
            · exact Nat.le_of_lt (srt_lt h h6 hj)
            · rw [h6]; exact Nat.le_refl _
          have a2 : far t (l.getD j dPrt) ≤ far t (l.getD u dPrt) := by
            rcases Nat.lt_or_eq_of_le h5 with h6 | h6
            · exact Nat.le_of_lt (srt_lt h h6 hu)
            · rw [h6]; exact Nat.le_refl _
          omega
    · rintro (h4 | h4)
      · have := srt_lt h h4 (by omega); omega
      · have := srt_lt h h4 hj; omega
  have mem_take : ∀ x ∈ l.take g, ∃ j, j < g ∧ j < l.length ∧ l.getD j dPrt = x := by
    intro x hx
    obtain ⟨j, hj, rfl⟩ := List.getElem_of_mem hx
    rw [List.length_take] at hj
    exact ⟨j, by omega, by omega, by rw [get_d (by omega), List.getElem_take]⟩
  have mem_mid : ∀ x ∈ (l.drop g).take (u + 1 - g), ∃ j, g ≤ j ∧ j ≤ u ∧ l.getD j dPrt = x := by
    intro x hx
    obtain ⟨j, hj, rfl⟩ := List.getElem_of_mem hx
    rw [List.length_take, List.length_drop] at hj
    exact ⟨g + j, by omega, by omega, by rw [get_d (by omega), List.getElem_take, List.getElem_drop]⟩
  have mem_end : ∀ x ∈ l.drop (u + 1), ∃ j, u < j ∧ j < l.length ∧ l.getD j dPrt = x := by
    intro x hx
    obtain ⟨j, hj, rfl⟩ := List.getElem_of_mem hx
    rw [List.length_drop] at hj
    exact ⟨u + 1 + j, by omega, by omega, by rw [get_d (by omega), List.getElem_drop]⟩
  generalize keepP (l.getD g dPrt) (l.getD u dPrt) = qq at key ⊢
  have e3 : l.filter qq = (l.take g ++ ((l.drop g).take (u + 1 - g) ++ l.drop (u + 1))).filter qq := congrArg (List.filter qq) e
  rw [e3, List.filter_append, List.filter_append]
  rw [List.filter_eq_self.2, List.filter_eq_nil_iff.2, List.filter_eq_self.2, List.nil_append]
  · intro x hx
    obtain ⟨j, h1, h2, rfl⟩ := mem_end x hx
    rw [key j h2]; exact decide_eq_true (.inr h1)
  · intro x hx
    obtain ⟨j, h1, h2, rfl⟩ := mem_mid x hx
    rw [key j (by omega)]; simp; omega
  · intro x hx
    obtain ⟨j, h1, h2, rfl⟩ := mem_take x hx
    rw [key j h2]; exact decide_eq_true (.inl h1)
theorem srt_ins {t : BitVec 32} {l : List Prt} {c : Prt} {i : Nat} (h : srt t l) (hc : far t c < 64) (hi : i ≤ l.length) (h1 : ∀ x ∈ l.take i, far t x < far t c) (h2 : ∀ x ∈ l.drop i, far t c < far t x) : srt t (l.take i ++ c :: l.drop i) := by
  constructor
  · refine List.pairwise_append.2 ⟨h.1.sublist (List.take_sublist _ _), List.pairwise_cons.2 ⟨h2, h.1.sublist (List.drop_sublist _ _)⟩, ?_⟩
    intro a ha b hb
    rcases List.mem_cons.1 hb with rfl | hb
    · exact h1 a ha
    · exact Nat.lt_trans (h1 a ha) (h2 b hb)
  · intro x hx
    rcases List.mem_append.1 hx with h3 | h3
    · exact h.2 x (List.mem_of_mem_take h3)
    · rcases List.mem_cons.1 h3 with rfl | h3
      · exact hc
      · exact h.2 x (List.mem_of_mem_drop h3)
theorem srt_cut {t : BitVec 32} {l : List Prt} (h : srt t l) (g u : Nat) (hgu : g ≤ u) : srt t (l.take g ++ l.drop u) := by
  have hs : (l.take g ++ l.drop u).Sublist l := by
    have e := List.take_append_drop g l
    conv => rhs; rw [← e]
    refine List.Sublist.append_left ?_ _
    rw [show u = g + (u - g) by omega, ← List.drop_drop]
    exact List.drop_sublist _ _
  exact ⟨h.1.sublist hs, fun x hx => h.2 x (hs.subset hx)⟩
def fl7 (x : Int) : Fin 8 := ⟨andN x 7, Nat.lt_succ_of_le (andN_le x 7 (by decide))⟩
theorem take_all' {α : Type} {l : List α} {k : Nat} (h : l.length = k) : (l.drop 0).take k = l := by subst h; simp
theorem and_f1 (f : Fin 8) : andN ((f.val : Nat) : Int) 1 = f.val % 2 := by revert f; decide
theorem and_f2 (f : Fin 8) : andN ((f.val : Nat) : Int) 2 = f.val / 2 % 2 * 2 := by revert f; decide
theorem and_f4 (f : Fin 8) : andN ((f.val : Nat) : Int) 4 = f.val / 4 % 2 * 4 := by revert f; decide
def xq (a b : Fin 8) : Nat := if a.val / 4 % 2 = b.val / 4 % 2 then 0 else 4
theorem and_xq (a b : Fin 8) : andN (((a.val ^^^ b.val : Nat)) : Int) 4 = xq a b := by revert a b; decide
theorem xq_0 {a b : Fin 8} : ((xq a b : Nat) : Int) = 0 ↔ ((a.val / 4 % 2 : Nat) : Int) = ((b.val / 4 % 2 : Nat) : Int) := by
  unfold xq; split <;> omega
theorem b_xorF {E : Env} {t : Nat} (X Y : Fin 8) : abin0 E .xor t (.int .i64 ((X.val : Nat) : Int)) (.int .i64 ((Y.val : Nat) : Int)) = .ret (.int .i64 ((X.val ^^^ Y.val : Nat) : Int)) [] := by
  unfold abin0; simp only [ne_eq, not_true_eq_false, if_false, Op.intBits]
  have h1 : (BitVec.ofInt IntKind.i64.bits ((X.val : Nat) : Int) ^^^ BitVec.ofInt IntKind.i64.bits ((Y.val : Nat) : Int)).toNat = X.val ^^^ Y.val := by
    show (BitVec.ofInt 64 ((X.val : Nat) : Int) ^^^ BitVec.ofInt 64 ((Y.val : Nat) : Int)).toNat = _
    rw [BitVec.ofInt_natCast, BitVec.ofInt_natCast, BitVec.toNat_xor, BitVec.toNat_ofNat, BitVec.toNat_ofNat, Nat.mod_eq_of_lt (by omega), Nat.mod_eq_of_lt (by omega)]
  have h2 : X.val ^^^ Y.val < 8 := by revert X Y; decide
  exact congrArg (fun z => T.ret (.int .i64 z) []) (show IntKind.wrap .i64 (((BitVec.ofInt IntKind.i64.bits ((X.val : Nat) : Int) ^^^ BitVec.ofInt IntKind.i64.bits ((Y.val : Nat) : Int)).toNat : Nat) : Int) = _ from by
    rw [h1]; exact i64_of (by omega) (by omega))
theorem bstr_L (d : ByteArray) : bstr (L d) = d := by
  unfold bstr
  cases d with
  | mk a => simp
theorem r_b2sL {E : Env} [hP : Plain E] {τ : Tm} {o : Oper} {n : Nat} {σ : Store} {t : Nat} {x : Operand} {ti ei : TI} {i : Nat} {s elem c : Nat} {si : TI} {d : ByteArray} {ty : Nat} (ho : o.op = .convert s t x) (hx : args1 τ x = some (.slice (some ⟨i, 0, none⟩) d.size c)) (hs : E.ty s = some si) (ht : E.ty t = some ti) (hsd : si.d = .slice elem) (htd : ti.d = .string) (he : E.ty elem = some ei) (hd : ei.d = .int .u8) {w : Bool} (hσ : σ i = some ⟨bc (L d), 1, ty, w⟩) : (aop E τ o).run n σ = some (.string d, n, []) := by
  have h := r_b2s (E := E) (n := n) (O := 0) ho hx hs ht hsd htd he hd hσ (by rw [L_len]; omega)
  rw [h, take_all' (L_len d), bstr_L]
theorem L_app (a b : ByteArray) : L (a ++ b) = L a ++ L b := by
  show (a ++ b).data.toList = _
  rw [ByteArray.data_append, Array.toList_append]
theorem r_appS2 {E : Env} [hP : Plain E] {τ : Tm} {o : Oper} {n : Nat} {σ : Store} {t u : Nat} {cl : Call} {r : List Nat} {ti ui ei : TI} {elem j : Nat} {d s : ByteArray} (ho : o.op = .call cl) (hc : cl.callee = .builtin .append) (hat : cl.argTypes.toList = t :: u :: r) (ha : evL τ cl.args.toList = some [.slice (some ⟨j, 0, none⟩) d.size 2, .string s]) (ht : E.ty t = some ti) (hu : E.ty u = some ui) (hd : ti.d = .slice elem) (hud : ui.d = .string) (he : E.ty elem = some ei) (hsz : ei.size = 1) (hj : σ j = some ⟨bc (L d), 1, elem, true⟩) (hs : d.size + s.size ≤ 1073741824) (hb : ei.bytes ≤ 65536) :
    (aop E τ o).run n σ = some (.slice (some ⟨n, 0, none⟩) (d ++ s).size 2, n + 1, [(n, some ⟨bc (L (d ++ s)), 1, elem, true⟩), (j, none)]) := by
  rw [aop_plain]
  unfold aop0
  simp only [ho, hc, ha, hat, abuiltin, ht, hu, hd, hud, he, hsz]
  rw [if_neg (by omega)]
  unfold Go.Proofs.YtmepflkodjdgdaaV.seen
  simp only [if_true]
  unfold aappend
  simp only
  rw [if_pos (by decide)]
  unfold aappend23
  rw [if_neg (by decide), if_pos rfl]
  have e2 : (s.data.toList.map fun b => [Value.int .u8 b.toNat]) = bc (L s) := rfl
  rw [e2]
  have hl1 : ((bc (L d)).drop 0).take d.size = bc (L d) := take_all' (by rw [bc_len, L_len])
  have hl2 : (bc (L s)).length = s.size := by rw [bc_len, L_len]
  have hl3 : (bc (L d)).length = d.size := by rw [bc_len, L_len]
  refine run_get hj ?_
  rw [if_pos ⟨hsz.symm, by rw [hl1, hl3], rfl, by rw [hl2]; simp [small, hs, hb], by omega, rfl⟩, hl1]
  have e1 : bc (L d) ++ bc (L s) = bc (L (d ++ s)) := by rw [L_app]; simp [bc]
  simp only [newRow2T, T.run, e1, hsz]
  rw [bc_len, L_len]
def lessW (a b : BitVec 32) : Prop := (a.toNat : Int) ≠ (b.toNat : Int) ∧ ((b - a).toNat : Int) < 2147483648
instance (a b : BitVec 32) : Decidable (lessW a b) := by unfold lessW; infer_instance
def lsP (c x : Prt) : Bool := decide (lessW c.tsn x.tsn)
def fitsR (x y : Prt) : Prop := (y.tsn.toNat : Int) = ((x.tsn + 1#32).toNat : Int) ∧ ((x.st : Nat) : Int) = ((y.st : Nat) : Int) ∧ ((x.ssn : Nat) : Int) = ((y.ssn : Nat) : Int) ∧ ((xq x.fl y.fl : Nat) : Int) = 0 ∧ ((x.fl.val % 2 : Nat) : Int) = 0 ∧ ((y.fl.val / 2 % 2 * 2 : Nat) : Int) = 0
instance (x y : Prt) : Decidable (fitsR x y) := by unfold fitsR; infer_instance
theorem fits_iff {x y : Prt} : fitsR x y ↔ fits x y := by
  unfold fitsR fits alike isE isB
  rw [xq_0]
  constructor
  · rintro ⟨h1, h2, h3, h4, h5, h6⟩
    exact ⟨BitVec.eq_of_toNat_eq (Int.ofNat_inj.1 h1), ⟨by omega, by omega, by omega⟩, by omega, by omega⟩
  · rintro ⟨h1, ⟨h2, h3, h4⟩, h5, h6⟩
    exact ⟨by rw [h1], by omega, by omega, by omega, by omega, by omega⟩
def alikeR (x y : Prt) : Prop := ((x.st : Nat) : Int) = ((y.st : Nat) : Int) ∧ ((x.ssn : Nat) : Int) = ((y.ssn : Nat) : Int) ∧ ((x.fl.val / 4 % 2 : Nat) : Int) = ((y.fl.val / 4 % 2 : Nat) : Int)
instance (x y : Prt) : Decidable (alikeR x y) := by unfold alikeR; infer_instance
theorem alike_iff {x y : Prt} : alikeR x y ↔ alike x y := by
  unfold alikeR alike
  exact ⟨fun ⟨a, b, c⟩ => ⟨by omega, by omega, by omega⟩, fun ⟨a, b, c⟩ => ⟨by omega, by omega, by omega⟩⟩
def atV (r : Option Prt) : Value := match r with
  | none => .tuple #[.agg ⟨cPrt dPrt⟩, .bool false]
  | some x => .tuple #[.agg ⟨cPrt x⟩, .bool true]
theorem at_no {l : List Prt} {t : BitVec 32} {i : Nat} (hi : i < l.length) (h : atL l t = atL (l.drop i) t) (hn : ¬ ((l.getD i dPrt).tsn.toNat : Int) = (t.toNat : Int)) : atL l t = atL (l.drop (i + 1)) t := by
  rw [h, List.drop_eq_getElem_cons hi]
  unfold atL
  rw [get_d hi] at hn
  rw [List.find?_cons, decide_eq_false (fun e => hn (by rw [e]))]
theorem at_yes {l : List Prt} {t : BitVec 32} {i : Nat} (hi : i < l.length) (hy : ((l.getD i dPrt).tsn.toNat : Int) = (t.toNat : Int)) : atL (l.drop i) t = some (l.getD i dPrt) := by
  rw [List.drop_eq_getElem_cons hi, get_d hi]
  rw [get_d hi] at hy
  unfold atL
  rw [List.find?_cons, decide_eq_true (BitVec.eq_of_toNat_eq (by omega))]
def arV (r : Option (Nat × Nat)) : Value := match r with
  | none => .tuple #[.int .i64 0, .int .i64 0, .bool false]
  | some (g, u) => .tuple #[.int .i64 ((g : Nat) : Int), .int .i64 ((u : Nat) : Int), .bool true]
def arL (l : List Prt) (i : Nat) : Option (Nat × Nat) := match fromL l i with
  | none => none
  | some g => match toL l (l.length - i) i with
    | none => none
    | some u => some (g, u)
theorem from_stop {l : List Prt} {f : Nat} (hb : ¬ ((((l.getD f dPrt).fl.val / 2 % 2 * 2 : Nat) : Int) = 0)) : fromL l f = some f := by
  have : isB (l.getD f dPrt) := by unfold isB; omega
  cases f with
  | zero => unfold fromL; rw [if_pos this]
  | succ f => unfold fromL; rw [if_pos this]
theorem from_0 {l : List Prt} {f : Nat} (h0 : f = 0) (hb : (((l.getD f dPrt).fl.val / 2 % 2 * 2 : Nat) : Int) = 0) : fromL l f = none := by
  subst h0
  unfold fromL; rw [if_neg (by unfold isB; omega)]
theorem from_n {l : List Prt} {f : Nat} (hb : (((l.getD f dPrt).fl.val / 2 % 2 * 2 : Nat) : Int) = 0) (hf : ¬ fits (l.getD (f - 1) dPrt) (l.getD f dPrt)) : fromL l f = none := by
  cases f with
  | zero => exact from_0 rfl hb
  | succ f => unfold fromL; rw [if_neg (by unfold isB; omega), if_neg (by simpa using hf)]
theorem from_s {l : List Prt} {f : Nat} (h0 : 0 < f) (hb : (((l.getD f dPrt).fl.val / 2 % 2 * 2 : Nat) : Int) = 0) (hf : fits (l.getD (f - 1) dPrt) (l.getD f dPrt)) : fromL l f = fromL l (f - 1) := by
  cases f with
  | zero => omega
  | succ f =>
    conv => lhs; unfold fromL
    rw [if_neg (by unfold isB; omega), if_pos (by simpa using hf)]; rfl
theorem to_stop {l : List Prt} {k t : Nat} (hk : 0 < k) (he : ¬ ((((l.getD t dPrt).fl.val % 2 : Nat) : Int) = 0)) : toL l k t = some t := by
  cases k with
  | zero => omega
  | succ k => unfold toL; rw [if_pos (by unfold isE; omega)]
theorem to_last {l : List Prt} {k t : Nat} (he : (((l.getD t dPrt).fl.val % 2 : Nat) : Int) = 0) (ht : t + 1 = l.length) : toL l k t = none := by
  cases k with
  | zero => rfl
  | succ k => unfold toL; rw [if_neg (by unfold isE; omega), if_pos ht]
theorem to_n {l : List Prt} {k t : Nat} (he : (((l.getD t dPrt).fl.val % 2 : Nat) : Int) = 0) (hf : ¬ fits (l.getD t dPrt) (l.getD (t + 1) dPrt)) : toL l k t = none := by
  cases k with
  | zero => rfl
  | succ k =>
    unfold toL; rw [if_neg (by unfold isE; omega), if_neg hf]
    split <;> rfl
theorem to_s {l : List Prt} {t : Nat} (ht : t + 1 < l.length) (he : (((l.getD t dPrt).fl.val % 2 : Nat) : Int) = 0) (hf : fits (l.getD t dPrt) (l.getD (t + 1) dPrt)) : toL l (l.length - t) t = toL l (l.length - (t + 1)) (t + 1) := by
  rw [show l.length - t = (l.length - (t + 1)) + 1 by omega]
  conv => lhs; unfold toL
  rw [if_neg (by unfold isE; omega), if_neg (by omega), if_pos hf]
abbrev xRs11 : List Value := [(.int .i64 0), (.int .i64 0), (.int .u32 0), (.int .i64 0), (.int .i64 0), (.int .u32 0), (.string ByteArray.empty), (.int .u32 0), (.int .u32 0), (.int .i64 0), (.int .i64 0), (.slice none 0 0), (.slice none 0 0), (.slice none 0 0), (.slice none 0 0)]
theorem sLess {σ : Store} (a b : BitVec 32)   : PS Try.prog noDen 62 [(W a), (W b)] σ (.bool (decide (lessW a b))) := by
 refine PS.body (E := env) env_ok rfl rfl (by show _ ≤ _; exact of_decide_eq_true (by kernel_rfl)) (fun n hd => ?_)
 refine RA.seq hd ?_
 refine RA.region env_ok ?_
 refine OA.p (some 4) (.bool false) rfl rfl rfl rfl ?_
 refine OA.nil ?_
 intro _
 refine RA.seq hd ?_
 refine RA.region env_ok ?_
 refine OA.p (some 5) (W a) rfl rfl rfl rfl ?_
 refine OA.p (some 6) (W b) rfl rfl rfl rfl ?_
 by_cases hc1 : (a.toNat : Int) ≠ (b.toNat : Int)
 ·
  refine OA.p (some 7) (.bool true) rfl rfl rfl (Eq.trans (r_bin rfl rfl rfl (b_neq rfl)) (dT hc1)) ?_
  refine OA.p (some 8) (.bool true) rfl rfl rfl rfl ?_
  refine OA.p (some 9) (W b) rfl rfl rfl rfl ?_
  refine OA.p (some 10) (W a) rfl rfl rfl rfl ?_
  refine OA.p (some 11) (W (b - a)) rfl rfl rfl (r_bin rfl rfl rfl (b_subW b a)) ?_
  refine OA.p (some 12) (.bool (decide (((b - a).toNat : Int) < 2147483648))) rfl rfl rfl (r_bin rfl rfl rfl (b_lss rfl)) ?_
  refine OA.p (some 13) (.bool (decide (((b - a).toNat : Int) < 2147483648))) rfl rfl rfl rfl ?_
  refine OA.p (some 4) (.bool (decide (((b - a).toNat : Int) < 2147483648))) rfl rfl rfl rfl ?_
  refine OA.nil ?_
  intro _
  refine RA.ret env_ok ?_
  refine ⟨.inr rfl, [(.bool (decide (((b - a).toNat : Int) < 2147483648)))], (resL_cons rfl resL_nil), (congrArg Value.bool (decide_eq_decide.2 ⟨fun hh => (⟨hc1, hh⟩ : lessW a b), fun hh : lessW a b => hh.2⟩)), (fun i hi => by cases hi)⟩
 ·
  refine OA.p (some 7) (.bool false) rfl rfl rfl (Eq.trans (r_bin rfl rfl rfl (b_neq rfl)) (dF hc1)) ?_
  refine OA.p (some 8) (.bool false) rfl rfl rfl rfl ?_
  refine OA.off (dst := (some 9)) rfl rfl rfl ?_
  refine OA.off (dst := (some 10)) rfl rfl rfl ?_
  refine OA.off (dst := (some 11)) rfl rfl rfl ?_
  refine OA.off (dst := (some 12)) rfl rfl rfl ?_
  refine OA.p (some 13) (.bool false) rfl rfl rfl rfl ?_
  refine OA.p (some 4) (.bool false) rfl rfl rfl rfl ?_
  refine OA.nil ?_
  intro _
  refine RA.ret env_ok ?_
  refine ⟨.inr rfl, [(.bool false)], (resL_cons rfl resL_nil), (congrArg Value.bool (decide_eq_false (fun hh : lessW a b => hc1 (hh.1))).symm), (fun i hi => by cases hi)⟩

theorem sFitsR {σ : Store} (x y : Prt)   : PS Try.prog noDen 96 [(.agg ⟨(cPrt x)⟩), (.agg ⟨(cPrt y)⟩)] σ (.bool (decide (fitsR x y))) := by
 refine PS.body (E := env) env_ok rfl rfl (by show _ ≤ _; exact of_decide_eq_true (by kernel_rfl)) (fun n hd => ?_)
 refine RA.seq hd ?_
 refine RA.region env_ok ?_
 refine OA.op1 (dst := (some 2)) (v := (Pt n 0 0)) (n1 := (n + 1)) (w := (n, some ⟨[(cPrt x)], 15, 54, true⟩)) rfl rfl rfl rfl (by omega) ?_
 refine OA.op1 (dst := (some 3)) (v := (.pointer (some ⟨(n + 1), 0, some 0⟩))) (n1 := (n + 2)) (w := ((n + 1), some ⟨[(cPrt y)], 15, 54, true⟩)) rfl rfl rfl rfl (by omega) ?_
 refine OA.p (some 4) (.bool false) rfl rfl rfl rfl ?_
 refine OA.nil ?_
 intro _
 refine RA.seq hd ?_
 refine RA.region env_ok ?_
 refine OA.p (some 5) (.pointer (some ⟨(n + 1), 0, some 2⟩)) rfl rfl rfl rfl ?_
 refine OA.p (some 6) (W y.tsn) rfl rfl rfl (r_load1 rfl rfl rfl rfl rfl get_here rfl rfl) ?_
 refine OA.p (some 7) (Pt n 0 2) rfl rfl rfl rfl ?_
 refine OA.p (some 8) (W x.tsn) rfl rfl rfl (r_load1 rfl rfl rfl rfl rfl (get_there (by omega) get_here) rfl rfl) ?_
 refine OA.p (some 9) (W (x.tsn + (1#32))) rfl rfl rfl (r_bin rfl rfl rfl (b_addW x.tsn (1#32))) ?_
 by_cases hc1 : (y.tsn.toNat : Int) = ((x.tsn + (1#32)).toNat : Int)
 ·
  refine OA.p (some 10) (.bool true) rfl rfl rfl (Eq.trans (r_bin rfl rfl rfl (b_eql rfl)) (dT hc1)) ?_
  refine OA.p (some 11) (.bool true) rfl rfl rfl rfl ?_
  refine OA.p (some 12) (Pt n 0 3) rfl rfl rfl rfl ?_
  refine OA.p (some 13) (.int .i64 ((x.st : Nat) : Int)) rfl rfl rfl (r_load1 rfl rfl rfl rfl rfl (get_there (by omega) get_here) rfl rfl) ?_
  refine OA.p (some 14) (.pointer (some ⟨(n + 1), 0, some 3⟩)) rfl rfl rfl rfl ?_
  refine OA.p (some 15) (.int .i64 ((y.st : Nat) : Int)) rfl rfl rfl (r_load1 rfl rfl rfl rfl rfl get_here rfl rfl) ?_
  by_cases hc2 : ((x.st : Nat) : Int) = ((y.st : Nat) : Int)
  ·
   refine OA.p (some 16) (.bool true) rfl rfl rfl (Eq.trans (r_bin rfl rfl rfl (b_eql rfl)) (dT hc2)) ?_
   refine OA.p (some 17) (.bool true) rfl rfl rfl rfl ?_
   refine OA.p (some 18) (.bool true) rfl rfl rfl rfl ?_
   refine OA.p (some 19) (Pt n 0 4) rfl rfl rfl rfl ?_
   refine OA.p (some 20) (.int .i64 ((x.ssn : Nat) : Int)) rfl rfl rfl (r_load1 rfl rfl rfl rfl rfl (get_there (by omega) get_here) rfl rfl) ?_
   refine OA.p (some 21) (.pointer (some ⟨(n + 1), 0, some 4⟩)) rfl rfl rfl rfl ?_
   refine OA.p (some 22) (.int .i64 ((y.ssn : Nat) : Int)) rfl rfl rfl (r_load1 rfl rfl rfl rfl rfl get_here rfl rfl) ?_
   by_cases hc3 : ((x.ssn : Nat) : Int) = ((y.ssn : Nat) : Int)
   ·
    refine OA.p (some 23) (.bool true) rfl rfl rfl (Eq.trans (r_bin rfl rfl rfl (b_eql rfl)) (dT hc3)) ?_
    refine OA.p (some 24) (.bool true) rfl rfl rfl rfl ?_
    refine OA.p (some 25) (.bool true) rfl rfl rfl rfl ?_
    refine OA.p (some 26) (Pt n 0 1) rfl rfl rfl rfl ?_
    refine OA.p (some 27) (.int .i64 ((x.fl.val : Nat) : Int)) rfl rfl rfl (r_load1 rfl rfl rfl rfl rfl (get_there (by omega) get_here) rfl rfl) ?_
    refine OA.p (some 28) (.pointer (some ⟨(n + 1), 0, some 1⟩)) rfl rfl rfl rfl ?_
    refine OA.p (some 29) (.int .i64 ((y.fl.val : Nat) : Int)) rfl rfl rfl (r_load1 rfl rfl rfl rfl rfl get_here rfl rfl) ?_
    refine OA.p (some 30) (.int .i64 (((x.fl.val ^^^ y.fl.val) : Nat) : Int)) rfl rfl rfl (r_bin rfl rfl rfl (b_xorF x.fl y.fl)) ?_
    refine OA.p (some 31) (.int .i64 (((xq x.fl y.fl) : Nat) : Int)) rfl rfl rfl (Eq.trans (r_bin rfl rfl rfl (b_andN (((x.fl.val ^^^ y.fl.val) : Nat) : Int) 4 (by decide))) (by rw [and_xq])) ?_
    by_cases hc4 : (((xq x.fl y.fl) : Nat) : Int) = 0
    ·
     refine OA.p (some 32) (.bool true) rfl rfl rfl (Eq.trans (r_bin rfl rfl rfl (b_eql rfl)) (dT hc4)) ?_
     refine OA.p (some 33) (.bool true) rfl rfl rfl rfl ?_
     refine OA.p (some 34) (.bool true) rfl rfl rfl rfl ?_
     refine OA.p (some 35) (Pt n 0 1) rfl rfl rfl rfl ?_
     refine OA.p (some 36) (.int .i64 ((x.fl.val : Nat) : Int)) rfl rfl rfl (r_load1 rfl rfl rfl rfl rfl (get_there (by omega) get_here) rfl rfl) ?_
     refine OA.p (some 37) (.int .i64 (((x.fl.val % 2) : Nat) : Int)) rfl rfl rfl (Eq.trans (r_bin rfl rfl rfl (b_andN ((x.fl.val : Nat) : Int) 1 (by decide))) (by rw [and_f1 x.fl])) ?_
     by_cases hc5 : (((x.fl.val % 2) : Nat) : Int) = 0
     ·
      refine OA.p (some 38) (.bool true) rfl rfl rfl (Eq.trans (r_bin rfl rfl rfl (b_eql rfl)) (dT hc5)) ?_
      refine OA.p (some 39) (.bool true) rfl rfl rfl rfl ?_
      refine OA.p (some 40) (.bool true) rfl rfl rfl rfl ?_
      refine OA.p (some 41) (.pointer (some ⟨(n + 1), 0, some 1⟩)) rfl rfl rfl rfl ?_
      refine OA.p (some 42) (.int .i64 ((y.fl.val : Nat) : Int)) rfl rfl rfl (r_load1 rfl rfl rfl rfl rfl get_here rfl rfl) ?_
      refine OA.p (some 43) (.int .i64 (((y.fl.val / 2 % 2 * 2) : Nat) : Int)) rfl rfl rfl (Eq.trans (r_bin rfl rfl rfl (b_andN ((y.fl.val : Nat) : Int) 2 (by decide))) (by rw [and_f2 y.fl])) ?_
      refine OA.p (some 44) (.bool (decide ((((y.fl.val / 2 % 2 * 2) : Nat) : Int) = 0))) rfl rfl rfl (r_bin rfl rfl rfl (b_eql rfl)) ?_
      refine OA.p (some 45) (.bool (decide ((((y.fl.val / 2 % 2 * 2) : Nat) : Int) = 0))) rfl rfl rfl rfl ?_
      refine OA.p (some 4) (.bool (decide ((((y.fl.val / 2 % 2 * 2) : Nat) : Int) = 0))) rfl rfl rfl rfl ?_
      refine OA.nil ?_
      intro _
      refine RA.rebase [(0, (.agg ⟨(cPrt x)⟩)), (1, (.agg ⟨(cPrt y)⟩)), (2, (Pt n 0 0)), (3, (.pointer (some ⟨(n + 1), 0, some 0⟩))), (4, (.bool (decide ((((y.fl.val / 2 % 2 * 2) : Nat) : Int) = 0))))] ⟨rfl, rfl, rfl, rfl, rfl, trivial⟩ (fun τr1 => ?_)
      refine RA.ret env_ok ?_
      refine ⟨.inr rfl, [(.bool (decide ((((y.fl.val / 2 % 2 * 2) : Nat) : Int) = 0)))], (resL_cons rfl resL_nil), (congrArg Value.bool (decide_eq_decide.2 ⟨fun hh => (⟨hc1, hc2, hc3, hc4, hc5, hh⟩ : fitsR x y), fun hh : fitsR x y => hh.2.2.2.2.2⟩)), (kc2 (by omega))⟩
     ·
      refine OA.p (some 38) (.bool false) rfl rfl rfl (Eq.trans (r_bin rfl rfl rfl (b_eql rfl)) (dF hc5)) ?_
      refine OA.p (some 39) (.bool false) rfl rfl rfl rfl ?_
      refine OA.p (some 40) (.bool false) rfl rfl rfl rfl ?_
      refine OA.off (dst := (some 41)) rfl rfl rfl ?_
      refine OA.off (dst := (some 42)) rfl rfl rfl ?_
      refine OA.off (dst := (some 43)) rfl rfl rfl ?_
      refine OA.off (dst := (some 44)) rfl rfl rfl ?_
      refine OA.p (some 45) (.bool false) rfl rfl rfl rfl ?_
      refine OA.p (some 4) (.bool false) rfl rfl rfl rfl ?_
      refine OA.nil ?_
      intro _
      refine RA.rebase [(0, (.agg ⟨(cPrt x)⟩)), (1, (.agg ⟨(cPrt y)⟩)), (2, (Pt n 0 0)), (3, (.pointer (some ⟨(n + 1), 0, some 0⟩))), (4, (.bool false))] ⟨rfl, rfl, rfl, rfl, rfl, trivial⟩ (fun τr2 => ?_)
      refine RA.ret env_ok ?_
      refine ⟨.inr rfl, [(.bool false)], (resL_cons rfl resL_nil), (congrArg Value.bool (decide_eq_false (fun hh : fitsR x y => hc5 (hh.2.2.2.2.1))).symm), (kc2 (by omega))⟩
    ·
     refine OA.p (some 32) (.bool false) rfl rfl rfl (Eq.trans (r_bin rfl rfl rfl (b_eql rfl)) (dF hc4)) ?_
     refine OA.p (some 33) (.bool false) rfl rfl rfl rfl ?_
     refine OA.p (some 34) (.bool false) rfl rfl rfl rfl ?_
     refine OA.off (dst := (some 35)) rfl rfl rfl ?_
     refine OA.off (dst := (some 36)) rfl rfl rfl ?_
     refine OA.off (dst := (some 37)) rfl rfl rfl ?_
     refine OA.off (dst := (some 38)) rfl rfl rfl ?_
     refine OA.p (some 39) (.bool false) rfl rfl rfl rfl ?_
     refine OA.p (some 40) (.bool false) rfl rfl rfl rfl ?_
     refine OA.off (dst := (some 41)) rfl rfl rfl ?_
     refine OA.off (dst := (some 42)) rfl rfl rfl ?_
     refine OA.off (dst := (some 43)) rfl rfl rfl ?_
     refine OA.off (dst := (some 44)) rfl rfl rfl ?_
     refine OA.p (some 45) (.bool false) rfl rfl rfl rfl ?_
     refine OA.p (some 4) (.bool false) rfl rfl rfl rfl ?_
     refine OA.nil ?_
     intro _
     refine RA.rebase [(0, (.agg ⟨(cPrt x)⟩)), (1, (.agg ⟨(cPrt y)⟩)), (2, (Pt n 0 0)), (3, (.pointer (some ⟨(n + 1), 0, some 0⟩))), (4, (.bool false))] ⟨rfl, rfl, rfl, rfl, rfl, trivial⟩ (fun τr3 => ?_)
     refine RA.ret env_ok ?_
     refine ⟨.inr rfl, [(.bool false)], (resL_cons rfl resL_nil), (congrArg Value.bool (decide_eq_false (fun hh : fitsR x y => hc4 (hh.2.2.2.1))).symm), (kc2 (by omega))⟩
   ·
    refine OA.p (some 23) (.bool false) rfl rfl rfl (Eq.trans (r_bin rfl rfl rfl (b_eql rfl)) (dF hc3)) ?_
    refine OA.p (some 24) (.bool false) rfl rfl rfl rfl ?_
    refine OA.p (some 25) (.bool false) rfl rfl rfl rfl ?_
    refine OA.off (dst := (some 26)) rfl rfl rfl ?_
    refine OA.off (dst := (some 27)) rfl rfl rfl ?_
    refine OA.off (dst := (some 28)) rfl rfl rfl ?_
    refine OA.off (dst := (some 29)) rfl rfl rfl ?_
    refine OA.off (dst := (some 30)) rfl rfl rfl ?_
    refine OA.off (dst := (some 31)) rfl rfl rfl ?_
    refine OA.off (dst := (some 32)) rfl rfl rfl ?_
    refine OA.p (some 33) (.bool false) rfl rfl rfl rfl ?_
    refine OA.p (some 34) (.bool false) rfl rfl rfl rfl ?_
    refine OA.off (dst := (some 35)) rfl rfl rfl ?_
    refine OA.off (dst := (some 36)) rfl rfl rfl ?_
    refine OA.off (dst := (some 37)) rfl rfl rfl ?_
    refine OA.off (dst := (some 38)) rfl rfl rfl ?_
    refine OA.p (some 39) (.bool false) rfl rfl rfl rfl ?_
    refine OA.p (some 40) (.bool false) rfl rfl rfl rfl ?_
    refine OA.off (dst := (some 41)) rfl rfl rfl ?_
    refine OA.off (dst := (some 42)) rfl rfl rfl ?_
    refine OA.off (dst := (some 43)) rfl rfl rfl ?_
    refine OA.off (dst := (some 44)) rfl rfl rfl ?_
    refine OA.p (some 45) (.bool false) rfl rfl rfl rfl ?_
    refine OA.p (some 4) (.bool false) rfl rfl rfl rfl ?_
    refine OA.nil ?_
    intro _
    refine RA.rebase [(0, (.agg ⟨(cPrt x)⟩)), (1, (.agg ⟨(cPrt y)⟩)), (2, (Pt n 0 0)), (3, (.pointer (some ⟨(n + 1), 0, some 0⟩))), (4, (.bool false))] ⟨rfl, rfl, rfl, rfl, rfl, trivial⟩ (fun τr4 => ?_)
    refine RA.ret env_ok ?_
    refine ⟨.inr rfl, [(.bool false)], (resL_cons rfl resL_nil), (congrArg Value.bool (decide_eq_false (fun hh : fitsR x y => hc3 (hh.2.2.1))).symm), (kc2 (by omega))⟩
  ·
   refine OA.p (some 16) (.bool false) rfl rfl rfl (Eq.trans (r_bin rfl rfl rfl (b_eql rfl)) (dF hc2)) ?_
   refine OA.p (some 17) (.bool false) rfl rfl rfl rfl ?_
   refine OA.p (some 18) (.bool false) rfl rfl rfl rfl ?_
   refine OA.off (dst := (some 19)) rfl rfl rfl ?_
   refine OA.off (dst := (some 20)) rfl rfl rfl ?_
   refine OA.off (dst := (some 21)) rfl rfl rfl ?_
   refine OA.off (dst := (some 22)) rfl rfl rfl ?_
   refine OA.off (dst := (some 23)) rfl rfl rfl ?_
   refine OA.p (some 24) (.bool false) rfl rfl rfl rfl ?_
   refine OA.p (some 25) (.bool false) rfl rfl rfl rfl ?_
   refine OA.off (dst := (some 26)) rfl rfl rfl ?_
   refine OA.off (dst := (some 27)) rfl rfl rfl ?_
   refine OA.off (dst := (some 28)) rfl rfl rfl ?_
   refine OA.off (dst := (some 29)) rfl rfl rfl ?_
   refine OA.off (dst := (some 30)) rfl rfl rfl ?_
   refine OA.off (dst := (some 31)) rfl rfl rfl ?_
   refine OA.off (dst := (some 32)) rfl rfl rfl ?_
   refine OA.p (some 33) (.bool false) rfl rfl rfl rfl ?_
   refine OA.p (some 34) (.bool false) rfl rfl rfl rfl ?_
   refine OA.off (dst := (some 35)) rfl rfl rfl ?_
   refine OA.off (dst := (some 36)) rfl rfl rfl ?_
   refine OA.off (dst := (some 37)) rfl rfl rfl ?_
   refine OA.off (dst := (some 38)) rfl rfl rfl ?_
   refine OA.p (some 39) (.bool false) rfl rfl rfl rfl ?_
   refine OA.p (some 40) (.bool false) rfl rfl rfl rfl ?_
   refine OA.off (dst := (some 41)) rfl rfl rfl ?_
   refine OA.off (dst := (some 42)) rfl rfl rfl ?_
   refine OA.off (dst := (some 43)) rfl rfl rfl ?_
   refine OA.off (dst := (some 44)) rfl rfl rfl ?_
   refine OA.p (some 45) (.bool false) rfl rfl rfl rfl ?_
   refine OA.p (some 4) (.bool false) rfl rfl rfl rfl ?_
   refine OA.nil ?_
   intro _
   refine RA.rebase [(0, (.agg ⟨(cPrt x)⟩)), (1, (.agg ⟨(cPrt y)⟩)), (2, (Pt n 0 0)), (3, (.pointer (some ⟨(n + 1), 0, some 0⟩))), (4, (.bool false))] ⟨rfl, rfl, rfl, rfl, rfl, trivial⟩ (fun τr5 => ?_)
   refine RA.ret env_ok ?_
   refine ⟨.inr rfl, [(.bool false)], (resL_cons rfl resL_nil), (congrArg Value.bool (decide_eq_false (fun hh : fitsR x y => hc2 (hh.2.1))).symm), (kc2 (by omega))⟩
 ·
  refine OA.p (some 10) (.bool false) rfl rfl rfl (Eq.trans (r_bin rfl rfl rfl (b_eql rfl)) (dF hc1)) ?_
  refine OA.p (some 11) (.bool false) rfl rfl rfl rfl ?_
  refine OA.off (dst := (some 12)) rfl rfl rfl ?_
  refine OA.off (dst := (some 13)) rfl rfl rfl ?_
  refine OA.off (dst := (some 14)) rfl rfl rfl ?_
  refine OA.off (dst := (some 15)) rfl rfl rfl ?_
  refine OA.off (dst := (some 16)) rfl rfl rfl ?_
  refine OA.p (some 17) (.bool false) rfl rfl rfl rfl ?_
  refine OA.p (some 18) (.bool false) rfl rfl rfl rfl ?_
  refine OA.off (dst := (some 19)) rfl rfl rfl ?_
  refine OA.off (dst := (some 20)) rfl rfl rfl ?_
  refine OA.off (dst := (some 21)) rfl rfl rfl ?_
  refine OA.off (dst := (some 22)) rfl rfl rfl ?_
  refine OA.off (dst := (some 23)) rfl rfl rfl ?_
  refine OA.p (some 24) (.bool false) rfl rfl rfl rfl ?_
  refine OA.p (some 25) (.bool false) rfl rfl rfl rfl ?_
  refine OA.off (dst := (some 26)) rfl rfl rfl ?_
  refine OA.off (dst := (some 27)) rfl rfl rfl ?_
  refine OA.off (dst := (some 28)) rfl rfl rfl ?_
  refine OA.off (dst := (some 29)) rfl rfl rfl ?_
  refine OA.off (dst := (some 30)) rfl rfl rfl ?_
  refine OA.off (dst := (some 31)) rfl rfl rfl ?_
  refine OA.off (dst := (some 32)) rfl rfl rfl ?_
  refine OA.p (some 33) (.bool false) rfl rfl rfl rfl ?_
  refine OA.p (some 34) (.bool false) rfl rfl rfl rfl ?_
  refine OA.off (dst := (some 35)) rfl rfl rfl ?_
  refine OA.off (dst := (some 36)) rfl rfl rfl ?_
  refine OA.off (dst := (some 37)) rfl rfl rfl ?_
  refine OA.off (dst := (some 38)) rfl rfl rfl ?_
  refine OA.p (some 39) (.bool false) rfl rfl rfl rfl ?_
  refine OA.p (some 40) (.bool false) rfl rfl rfl rfl ?_
  refine OA.off (dst := (some 41)) rfl rfl rfl ?_
  refine OA.off (dst := (some 42)) rfl rfl rfl ?_
  refine OA.off (dst := (some 43)) rfl rfl rfl ?_
  refine OA.off (dst := (some 44)) rfl rfl rfl ?_
  refine OA.p (some 45) (.bool false) rfl rfl rfl rfl ?_
  refine OA.p (some 4) (.bool false) rfl rfl rfl rfl ?_
  refine OA.nil ?_
  intro _
  refine RA.rebase [(0, (.agg ⟨(cPrt x)⟩)), (1, (.agg ⟨(cPrt y)⟩)), (2, (Pt n 0 0)), (3, (.pointer (some ⟨(n + 1), 0, some 0⟩))), (4, (.bool false))] ⟨rfl, rfl, rfl, rfl, rfl, trivial⟩ (fun τr6 => ?_)
  refine RA.ret env_ok ?_
  refine ⟨.inr rfl, [(.bool false)], (resL_cons rfl resL_nil), (congrArg Value.bool (decide_eq_false (fun hh : fitsR x y => hc1 (hh.1))).symm), (kc2 (by omega))⟩

theorem sFits {σ : Store} (x y : Prt) : PS Try.prog noDen 96 [(.agg ⟨(cPrt x)⟩), (.agg ⟨(cPrt y)⟩)] σ (.bool (decide (fits x y))) := (sFitsR x y).to (congrArg Value.bool (decide_eq_decide.2 fits_iff))

theorem sAlR {σ : Store} (x y : Prt)   : PS Try.prog noDen 77 [(.agg ⟨(cPrt x)⟩), (.agg ⟨(cPrt y)⟩)] σ (.bool (decide (alikeR x y))) := by
 refine PS.body (E := env) env_ok rfl rfl (by show _ ≤ _; exact of_decide_eq_true (by kernel_rfl)) (fun n hd => ?_)
 refine RA.seq hd ?_
 refine RA.region env_ok ?_
 refine OA.op1 (dst := (some 2)) (v := (Pt n 0 0)) (n1 := (n + 1)) (w := (n, some ⟨[(cPrt x)], 15, 54, true⟩)) rfl rfl rfl rfl (by omega) ?_
 refine OA.op1 (dst := (some 3)) (v := (.pointer (some ⟨(n + 1), 0, some 0⟩))) (n1 := (n + 2)) (w := ((n + 1), some ⟨[(cPrt y)], 15, 54, true⟩)) rfl rfl rfl rfl (by omega) ?_
 refine OA.p (some 4) (.bool false) rfl rfl rfl rfl ?_
 refine OA.nil ?_
 intro _
 refine RA.seq hd ?_
 refine RA.region env_ok ?_
 refine OA.p (some 5) (Pt n 0 3) rfl rfl rfl rfl ?_
 refine OA.p (some 6) (.int .i64 ((x.st : Nat) : Int)) rfl rfl rfl (r_load1 rfl rfl rfl rfl rfl (get_there (by omega) get_here) rfl rfl) ?_
 refine OA.p (some 7) (.pointer (some ⟨(n + 1), 0, some 3⟩)) rfl rfl rfl rfl ?_
 refine OA.p (some 8) (.int .i64 ((y.st : Nat) : Int)) rfl rfl rfl (r_load1 rfl rfl rfl rfl rfl get_here rfl rfl) ?_
 by_cases hc1 : ((x.st : Nat) : Int) = ((y.st : Nat) : Int)
 ·
  refine OA.p (some 9) (.bool true) rfl rfl rfl (Eq.trans (r_bin rfl rfl rfl (b_eql rfl)) (dT hc1)) ?_
  refine OA.p (some 10) (.bool true) rfl rfl rfl rfl ?_
  refine OA.p (some 11) (Pt n 0 4) rfl rfl rfl rfl ?_
  refine OA.p (some 12) (.int .i64 ((x.ssn : Nat) : Int)) rfl rfl rfl (r_load1 rfl rfl rfl rfl rfl (get_there (by omega) get_here) rfl rfl) ?_
  refine OA.p (some 13) (.pointer (some ⟨(n + 1), 0, some 4⟩)) rfl rfl rfl rfl ?_
  refine OA.p (some 14) (.int .i64 ((y.ssn : Nat) : Int)) rfl rfl rfl (r_load1 rfl rfl rfl rfl rfl get_here rfl rfl) ?_
  by_cases hc2 : ((x.ssn : Nat) : Int) = ((y.ssn : Nat) : Int)
  ·
   refine OA.p (some 15) (.bool true) rfl rfl rfl (Eq.trans (r_bin rfl rfl rfl (b_eql rfl)) (dT hc2)) ?_
   refine OA.p (some 16) (.bool true) rfl rfl rfl rfl ?_
   refine OA.p (some 17) (.bool true) rfl rfl rfl rfl ?_
   refine OA.p (some 18) (Pt n 0 1) rfl rfl rfl rfl ?_
   refine OA.p (some 19) (.int .i64 ((x.fl.val : Nat) : Int)) rfl rfl rfl (r_load1 rfl rfl rfl rfl rfl (get_there (by omega) get_here) rfl rfl) ?_
   refine OA.p (some 20) (.int .i64 (((x.fl.val / 4) : Nat) : Int)) rfl rfl rfl (r_bin rfl rfl rfl (b_quoN (a := x.fl.val) (c := 4) (by decide) (i64_eq (by omega)))) ?_
   refine OA.p (some 21) (.int .i64 ((((x.fl.val / 4) % 2) : Nat) : Int)) rfl rfl rfl (r_bin rfl rfl rfl (b_remN (a := (x.fl.val / 4)) (c := 2) (by decide))) ?_
   refine OA.p (some 22) (.pointer (some ⟨(n + 1), 0, some 1⟩)) rfl rfl rfl rfl ?_
   refine OA.p (some 23) (.int .i64 ((y.fl.val : Nat) : Int)) rfl rfl rfl (r_load1 rfl rfl rfl rfl rfl get_here rfl rfl) ?_
   refine OA.p (some 24) (.int .i64 (((y.fl.val / 4) : Nat) : Int)) rfl rfl rfl (r_bin rfl rfl rfl (b_quoN (a := y.fl.val) (c := 4) (by decide) (i64_eq (by omega)))) ?_
   refine OA.p (some 25) (.int .i64 ((((y.fl.val / 4) % 2) : Nat) : Int)) rfl rfl rfl (r_bin rfl rfl rfl (b_remN (a := (y.fl.val / 4)) (c := 2) (by decide))) ?_
   refine OA.p (some 26) (.bool (decide (((((x.fl.val / 4) % 2) : Nat) : Int) = ((((y.fl.val / 4) % 2) : Nat) : Int)))) rfl rfl rfl (r_bin rfl rfl rfl (b_eql rfl)) ?_
   refine OA.p (some 27) (.bool (decide (((((x.fl.val / 4) % 2) : Nat) : Int) = ((((y.fl.val / 4) % 2) : Nat) : Int)))) rfl rfl rfl rfl ?_
   refine OA.p (some 4) (.bool (decide (((((x.fl.val / 4) % 2) : Nat) : Int) = ((((y.fl.val / 4) % 2) : Nat) : Int)))) rfl rfl rfl rfl ?_
   refine OA.nil ?_
   intro _
   refine RA.rebase [(0, (.agg ⟨(cPrt x)⟩)), (1, (.agg ⟨(cPrt y)⟩)), (2, (Pt n 0 0)), (3, (.pointer (some ⟨(n + 1), 0, some 0⟩))), (4, (.bool (decide (((((x.fl.val / 4) % 2) : Nat) : Int) = ((((y.fl.val / 4) % 2) : Nat) : Int)))))] ⟨rfl, rfl, rfl, rfl, rfl, trivial⟩ (fun τr1 => ?_)
   refine RA.ret env_ok ?_
   refine ⟨.inr rfl, [(.bool (decide (((((x.fl.val / 4) % 2) : Nat) : Int) = ((((y.fl.val / 4) % 2) : Nat) : Int))))], (resL_cons rfl resL_nil), (congrArg Value.bool (decide_eq_decide.2 ⟨fun hh => (⟨hc1, hc2, hh⟩ : alikeR x y), fun hh : alikeR x y => hh.2.2⟩)), (kc2 (by omega))⟩
  ·
   refine OA.p (some 15) (.bool false) rfl rfl rfl (Eq.trans (r_bin rfl rfl rfl (b_eql rfl)) (dF hc2)) ?_
   refine OA.p (some 16) (.bool false) rfl rfl rfl rfl ?_
   refine OA.p (some 17) (.bool false) rfl rfl rfl rfl ?_
   refine OA.off (dst := (some 18)) rfl rfl rfl ?_
   refine OA.off (dst := (some 19)) rfl rfl rfl ?_
   refine OA.off (dst := (some 20)) rfl rfl rfl ?_
   refine OA.off (dst := (some 21)) rfl rfl rfl ?_
   refine OA.off (dst := (some 22)) rfl rfl rfl ?_
   refine OA.off (dst := (some 23)) rfl rfl rfl ?_
   refine OA.off (dst := (some 24)) rfl rfl rfl ?_
   refine OA.off (dst := (some 25)) rfl rfl rfl ?_
   refine OA.off (dst := (some 26)) rfl rfl rfl ?_
   refine OA.p (some 27) (.bool false) rfl rfl rfl rfl ?_
   refine OA.p (some 4) (.bool false) rfl rfl rfl rfl ?_
   refine OA.nil ?_
   intro _
   refine RA.rebase [(0, (.agg ⟨(cPrt x)⟩)), (1, (.agg ⟨(cPrt y)⟩)), (2, (Pt n 0 0)), (3, (.pointer (some ⟨(n + 1), 0, some 0⟩))), (4, (.bool false))] ⟨rfl, rfl, rfl, rfl, rfl, trivial⟩ (fun τr2 => ?_)
   refine RA.ret env_ok ?_
   refine ⟨.inr rfl, [(.bool false)], (resL_cons rfl resL_nil), (congrArg Value.bool (decide_eq_false (fun hh : alikeR x y => hc2 (hh.2.1))).symm), (kc2 (by omega))⟩
 ·
  refine OA.p (some 9) (.bool false) rfl rfl rfl (Eq.trans (r_bin rfl rfl rfl (b_eql rfl)) (dF hc1)) ?_
  refine OA.p (some 10) (.bool false) rfl rfl rfl rfl ?_
  refine OA.off (dst := (some 11)) rfl rfl rfl ?_
  refine OA.off (dst := (some 12)) rfl rfl rfl ?_
  refine OA.off (dst := (some 13)) rfl rfl rfl ?_
  refine OA.off (dst := (some 14)) rfl rfl rfl ?_
  refine OA.off (dst := (some 15)) rfl rfl rfl ?_
  refine OA.p (some 16) (.bool false) rfl rfl rfl rfl ?_
  refine OA.p (some 17) (.bool false) rfl rfl rfl rfl ?_
  refine OA.off (dst := (some 18)) rfl rfl rfl ?_
  refine OA.off (dst := (some 19)) rfl rfl rfl ?_
  refine OA.off (dst := (some 20)) rfl rfl rfl ?_
  refine OA.off (dst := (some 21)) rfl rfl rfl ?_
  refine OA.off (dst := (some 22)) rfl rfl rfl ?_
  refine OA.off (dst := (some 23)) rfl rfl rfl ?_
  refine OA.off (dst := (some 24)) rfl rfl rfl ?_
  refine OA.off (dst := (some 25)) rfl rfl rfl ?_
  refine OA.off (dst := (some 26)) rfl rfl rfl ?_
  refine OA.p (some 27) (.bool false) rfl rfl rfl rfl ?_
  refine OA.p (some 4) (.bool false) rfl rfl rfl rfl ?_
  refine OA.nil ?_
  intro _
  refine RA.rebase [(0, (.agg ⟨(cPrt x)⟩)), (1, (.agg ⟨(cPrt y)⟩)), (2, (Pt n 0 0)), (3, (.pointer (some ⟨(n + 1), 0, some 0⟩))), (4, (.bool false))] ⟨rfl, rfl, rfl, rfl, rfl, trivial⟩ (fun τr3 => ?_)
  refine RA.ret env_ok ?_
  refine ⟨.inr rfl, [(.bool false)], (resL_cons rfl resL_nil), (congrArg Value.bool (decide_eq_false (fun hh : alikeR x y => hc1 (hh.1))).symm), (kc2 (by omega))⟩

theorem sAl {σ : Store} (x y : Prt) : PS Try.prog noDen 77 [(.agg ⟨(cPrt x)⟩), (.agg ⟨(cPrt y)⟩)] σ (.bool (decide (alike x y))) := (sAlR x y).to (congrArg Value.bool (decide_eq_decide.2 alike_iff))

theorem sCl {σ : Store} (x c : Prt) (k1 : Nat) (hk1 : σ k1 = some ⟨[(cPrt c)], 15, 54, true⟩)  : PS Try.prog noDen 72 [(.agg ⟨(cPrt x)⟩), (Pt k1 0 0)] σ (.bool (lsP c x)) := by
 refine PS.body (E := env) env_ok rfl rfl (by show _ ≤ _; exact of_decide_eq_true (by kernel_rfl)) (fun n hd => ?_)
 have lhk1 := hd.lt hk1
 refine RA.seq hd ?_
 refine RA.region env_ok ?_
 refine OA.op1 (dst := (some 2)) (v := (Pt n 0 0)) (n1 := (n + 1)) (w := (n, some ⟨[(cPrt x)], 15, 54, true⟩)) rfl rfl rfl rfl (by omega) ?_
 refine OA.p (some 3) (.bool false) rfl rfl rfl rfl ?_
 refine OA.nil ?_
 intro _
 refine RA.seq hd ?_
 refine RA.region env_ok ?_
 refine OA.p (some 4) (Pt k1 0 2) rfl rfl rfl rfl ?_
 refine OA.p (some 5) (W c.tsn) rfl rfl rfl (r_load1 rfl rfl rfl rfl rfl (get_there (by omega) hk1) rfl rfl) ?_
 refine OA.p (some 6) (Pt n 0 2) rfl rfl rfl rfl ?_
 refine OA.p (some 7) (W x.tsn) rfl rfl rfl (r_load1 rfl rfl rfl rfl rfl get_here rfl rfl) ?_
 refine OA.callP (dst := (some 8)) (all := [(W c.tsn), (W x.tsn)]) (v := (.bool (decide (lessW c.tsn x.tsn)))) (hd.of (by omega) (kb1 (by omega))) rfl rfl rfl rfl rfl rfl rfl rfl (sLess c.tsn x.tsn) ?_
 intro n1 hn1
 refine OA.p (some 3) (.bool (decide (lessW c.tsn x.tsn))) rfl rfl rfl rfl ?_
 refine OA.nil ?_
 intro _
 refine RA.ret env_ok ?_
 refine ⟨.inr rfl, [(.bool (decide (lessW c.tsn x.tsn)))], (resL_cons rfl resL_nil), rfl, (kc1 (by omega))⟩

theorem sIdx {σ : Store} (j N : Nat) (l : List Prt) (hl : l.length = N) (hN : N ≤ 1000000) (p : Prt → Bool) (b : Nat) (hj : σ j = some (oPrt l)) (hf : ∀ x ∈ l, PS Try.prog noDen 72 [.agg ⟨cPrt x⟩, (Pt b 0 0)] σ (.bool (p x))) : PS Try.prog noDen 71 [(.slice (some ⟨j, 0, none⟩) N 2), (.func (.func 72) ⟨[]⟩ ⟨[(Pt b 0 0)]⟩)] σ (.int .i64 (idxZ p l)) := by
 refine PS.body (E := env) env_ok rfl rfl (by show _ ≤ _; exact of_decide_eq_true (by kernel_rfl)) (fun n hd => ?_)
 have lhj := hd.lt hj
 refine RA.seq hd ?_
 refine RA.region env_ok ?_
 refine OA.p (some 4) (.int .i64 0) rfl rfl rfl rfl ?_
 refine OA.nil ?_
 intro _
 refine RA.seq hd ?_
 refine RA.seq hd ?_
 refine RA.region env_ok ?_
 refine OA.p (some 6) (.slice (some ⟨j, 0, none⟩) N 2) rfl rfl rfl rfl ?_
 refine OA.p (some 7) (.int .i64 ((N : Nat) : Int)) rfl rfl rfl rfl ?_
 refine OA.p (some 8) (.int .i64 0) rfl rfl rfl rfl ?_
 refine OA.nil ?_
 intro _
 refine RA.block ?_
 refine RA.loop hd (fun kk_ τ n' D => ∃ i : Nat,  kk_ = (N - i) ∧ n ≤ n' ∧ Has τ [(0, (.slice (some ⟨j, 0, none⟩) N 2)), (1, (.func (.func 72) ⟨[]⟩ ⟨[(Pt b 0 0)]⟩)), (7, (.int .i64 ((N : Nat) : Int))), (8, (.int .i64 ((i : Nat) : Int)))] ∧ D = [] ∧ (∀ i ∈ keys D, i < n') ∧ i ≤ N ∧ i ≤ l.findIdx p) ((N - 0)) ⟨0, rfl, by omega, ⟨rfl, rfl, rfl, rfl, trivial⟩, rfl, (fun i hi => by cases hi), ⟨by omega, by omega⟩⟩ ?_
 rintro kn1 τ1 n1 _ ⟨i, rfl, hn1, hHn1, rfl, hKn1, hIn1⟩
 rw [Has.eq hHn1]
 simp only [keys, List.map, List.forall_mem_cons, List.mem_cons, List.not_mem_nil, false_imp_iff, implies_true, and_true] at hKn1
 obtain ⟨hi1, hi2⟩ := hIn1
 refine RA.seq hd ?_
 refine RA.region env_ok ?_
 by_cases hc1 : ((i : Nat) : Int) < ((N : Nat) : Int)
 ·
  refine OA.p (some 9) (.bool true) rfl rfl rfl (Eq.trans (r_bin rfl rfl rfl (b_lss rfl)) (dT hc1)) ?_
  refine OA.nil ?_
  intro _
  refine RA.seq hd ?_
  refine RA.condT rfl ?_
  refine RA.skip env_ok ?_
  intro _
  refine RA.seq hd ?_
  refine RA.block ?_
  refine RA.seq hd ?_
  refine RA.region env_ok ?_
  refine OA.p (some 10) (.int .i64 ((i : Nat) : Int)) rfl rfl rfl rfl ?_
  refine OA.p (some 5) (.int .i64 ((i : Nat) : Int)) rfl rfl rfl rfl ?_
  refine OA.nil ?_
  intro _
  refine RA.seq hd ?_
  refine RA.region env_ok ?_
  refine OA.p (some 11) (.func (.func 72) ⟨[]⟩ ⟨[(Pt b 0 0)]⟩) rfl rfl rfl rfl ?_
  refine OA.p (some 12) (.slice (some ⟨j, 0, none⟩) N 2) rfl rfl rfl rfl ?_
  refine OA.p (some 13) (.int .i64 ((i : Nat) : Int)) rfl rfl rfl rfl ?_
  refine OA.p (some 14) (Pt j i 0) rfl rfl rfl (r_iaS (l := i) rfl rfl rfl rfl rfl rfl (by omega) (by omega) hj rfl (by omega)) ?_
  refine OA.p (some 15) (.agg ⟨(cPrt (l.getD i dPrt))⟩) rfl rfl rfl (r_loadR (c := cPrt) dPrt rfl rfl rfl rfl hj (by rw [hl]; omega) rfl) ?_
  by_cases hc2 : (p (l.getD i dPrt)) = true
  ·
   have hfi := fi_found (d := dPrt) (by omega) hc2 (by omega)
   refine OA.callP (dst := (some 16)) (all := [(.agg ⟨(cPrt (l.getD i dPrt))⟩), (Pt b 0 0)]) (v := (.bool true)) (hd.up (by omega)) rfl rfl rfl rfl rfl rfl rfl rfl (PS.to (hf (l.getD i dPrt) (getD_mem (by omega))) (show (.bool (p (l.getD i dPrt))) = ((.bool true) : Value) from (by first | (rw [hc2]; done) | (rw [hc2]; rfl)))) ?_
   intro n2 hn2
   refine OA.nil ?_
   intro _
   refine RA.condT rfl ?_
   refine RA.seq hd ?_
   refine RA.region env_ok ?_
   refine OA.p (some 17) (.int .i64 ((i : Nat) : Int)) rfl rfl rfl rfl ?_
   refine OA.p (some 4) (.int .i64 ((i : Nat) : Int)) rfl rfl rfl rfl ?_
   refine OA.nil ?_
   intro _
   refine RA.ret env_ok ?_
   refine ⟨.inr rfl, [(.int .i64 ((i : Nat) : Int))], (resL_cons rfl resL_nil), (by show Value.int _ _ = Value.int _ _; unfold idxZ; rw [if_pos (by omega), hfi]), (fun i hi => by cases hi)⟩
  ·
   have hfi := fi_step (d := dPrt) (by omega) hc2 (by omega)
   refine OA.callP (dst := (some 16)) (all := [(.agg ⟨(cPrt (l.getD i dPrt))⟩), (Pt b 0 0)]) (v := (.bool false)) (hd.up (by omega)) rfl rfl rfl rfl rfl rfl rfl rfl (PS.to (hf (l.getD i dPrt) (getD_mem (by omega))) (show (.bool (p (l.getD i dPrt))) = ((.bool false) : Value) from (by first | (rw [eq_false_of_ne_true hc2]; done) | (rw [eq_false_of_ne_true hc2]; rfl)))) ?_
   intro n3 hn3
   refine OA.nil ?_
   intro _
   refine RA.condF rfl ?_
   refine RA.skip env_ok ?_
   intro _
   refine RA.region env_ok ?_
   refine OA.p (some 18) (.int .i64 (((i + 1) : Nat) : Int)) rfl rfl rfl (r_bin rfl rfl rfl (b_add (i64_eq (by omega)))) ?_
   refine OA.p (some 8) (.int .i64 (((i + 1) : Nat) : Int)) rfl rfl rfl rfl ?_
   refine OA.nil ?_
   refine ⟨(N - (i + 1)), by omega, [], (Less.refl _ _ _), (i + 1), rfl, by omega, ⟨rfl, rfl, rfl, rfl, trivial⟩, rfl, (fun i hi => by cases hi), ⟨by omega, by omega⟩⟩
 ·
  refine OA.p (some 9) (.bool false) rfl rfl rfl (Eq.trans (r_bin rfl rfl rfl (b_lss rfl)) (dF hc1)) ?_
  refine OA.nil ?_
  intro _
  refine RA.seq hd ?_
  refine RA.condF rfl ?_
  refine RA.exit env_ok ?_
  intro _
  refine RA.seq hd ?_
  refine RA.region env_ok ?_
  refine OA.p (some 4) (.int .i64 (-1)) rfl rfl rfl rfl ?_
  refine OA.nil ?_
  intro _
  refine RA.ret env_ok ?_
  refine ⟨.inr rfl, [(.int .i64 (-1))], (resL_cons rfl resL_nil), (by show Value.int _ _ = Value.int _ _; unfold idxZ; rw [if_neg (by omega)]), (fun i hi => by cases hi)⟩

theorem sAt {σ : Store} (j N : Nat) (l : List Prt) (hl : l.length = N) (hN : N ≤ 1000) (t : BitVec 32) (hj : σ j = some (oPrt l))  : PS Try.prog noDen 76 [(.slice (some ⟨j, 0, none⟩) N 2), (W t)] σ (atV (atL l t)) := by
 refine PS.body (E := env) env_ok rfl rfl (by show _ ≤ _; exact of_decide_eq_true (by kernel_rfl)) (fun n hd => ?_)
 have lhj := hd.lt hj
 refine RA.seq hd ?_
 refine RA.region env_ok ?_
 refine OA.op1 (dst := (some 4)) (v := (Pt n 0 0)) (n1 := (n + 1)) (w := (n, some ⟨[xRs11], 15, 54, true⟩)) rfl rfl rfl rfl (by omega) ?_
 refine OA.p (some 5) (.bool false) rfl rfl rfl rfl ?_
 refine OA.nil ?_
 intro _
 refine RA.seq hd ?_
 refine RA.seq hd ?_
 refine RA.region env_ok ?_
 refine OA.p (some 6) (.int .i64 0) rfl rfl rfl rfl ?_
 refine OA.nil ?_
 intro _
 refine RA.block ?_
 refine RA.loop hd (fun kk_ τ n' D => ∃ i : Nat,  kk_ = (N - i) ∧ (n + 1) ≤ n' ∧ Has τ [(0, (.slice (some ⟨j, 0, none⟩) N 2)), (1, (W t)), (4, (Pt n 0 0)), (6, (.int .i64 ((i : Nat) : Int)))] ∧ D = [(n, some ⟨[xRs11], 15, 54, true⟩)] ∧ (∀ i ∈ keys D, i < n') ∧ i ≤ N ∧ atL l t = atL (l.drop i) t) ((N - 0)) ⟨0, rfl, by omega, ⟨rfl, rfl, rfl, rfl, trivial⟩, rfl, (kb1 (by omega)), ⟨by omega, rfl⟩⟩ ?_
 rintro kn1 τ1 n1 _ ⟨i, rfl, hn1, hHn1, rfl, hKn1, hIn1⟩
 rw [Has.eq hHn1]
 have hKn1_0 : n < n1 := hKn1 _ (by simp only [keys, List.map_cons, List.map_nil, List.mem_cons, true_or, or_true])
 simp only [keys, List.map, List.forall_mem_cons, List.mem_cons, List.not_mem_nil, false_imp_iff, implies_true, and_true] at hKn1
 obtain ⟨hi1, hi2⟩ := hIn1
 refine RA.seq hd ?_
 refine RA.seq hd ?_
 refine RA.region env_ok ?_
 refine OA.p (some 7) (.int .i64 ((i : Nat) : Int)) rfl rfl rfl rfl ?_
 refine OA.p (some 8) (.slice (some ⟨j, 0, none⟩) N 2) rfl rfl rfl rfl ?_
 refine OA.p (some 9) (.int .i64 ((N : Nat) : Int)) rfl rfl rfl rfl ?_
 by_cases hc1 : ((i : Nat) : Int) < ((N : Nat) : Int)
 ·
  refine OA.p (some 10) (.bool true) rfl rfl rfl (Eq.trans (r_bin rfl rfl rfl (b_lss rfl)) (dT hc1)) ?_
  refine OA.nil ?_
  intro _
  refine RA.condT rfl ?_
  refine RA.skip env_ok ?_
  intro _
  refine RA.seq hd ?_
  refine RA.block ?_
  refine RA.seq hd ?_
  refine RA.region env_ok ?_
  refine OA.p (some 13) (.slice (some ⟨j, 0, none⟩) N 2) rfl rfl rfl rfl ?_
  refine OA.p (some 14) (.int .i64 ((i : Nat) : Int)) rfl rfl rfl rfl ?_
  refine OA.p (some 15) (Pt j i 0) rfl rfl rfl (r_iaS (l := i) rfl rfl rfl rfl rfl rfl (by omega) (by omega) (get_there (by omega) hj) rfl (by omega)) ?_
  refine OA.p (some 16) (Pt j i 2) rfl rfl rfl rfl ?_
  refine OA.p (some 17) (W (l.getD i dPrt).tsn) rfl rfl rfl (r_loadF (c := cPrt) dPrt rfl rfl rfl rfl rfl (get_there (by omega) hj) (by rw [hl]; omega) rfl) ?_
  refine OA.p (some 18) (W t) rfl rfl rfl rfl ?_
  by_cases hc2 : ((l.getD i dPrt).tsn.toNat : Int) = (t.toNat : Int)
  ·
   refine OA.p (some 19) (.bool true) rfl rfl rfl (Eq.trans (r_bin rfl rfl rfl (b_eql rfl)) (dT hc2)) ?_
   refine OA.nil ?_
   intro _
   refine RA.condT rfl ?_
   refine RA.seq hd ?_
   refine RA.region env_ok ?_
   refine OA.p (some 20) (.slice (some ⟨j, 0, none⟩) N 2) rfl rfl rfl rfl ?_
   refine OA.p (some 21) (.int .i64 ((i : Nat) : Int)) rfl rfl rfl rfl ?_
   refine OA.p (some 22) (Pt j i 0) rfl rfl rfl (r_iaS (l := i) rfl rfl rfl rfl rfl rfl (by omega) (by omega) (get_there (by omega) hj) rfl (by omega)) ?_
   refine OA.p (some 23) (.agg ⟨(cPrt (l.getD i dPrt))⟩) rfl rfl rfl (r_loadR (c := cPrt) dPrt rfl rfl rfl rfl (get_there (by omega) hj) (by rw [hl]; omega) rfl) ?_
   refine OA.op1 (dst := none) (v := (.tuple #[])) (n1 := n1) (w := (n, some ⟨[(cPrt (l.getD i dPrt))], 15, 54, true⟩)) rfl rfl rfl (r_store rfl rfl rfl rfl rfl rfl rfl get_here rfl rfl (Nat.le_of_ble_eq_true rfl) rfl) (by omega) ?_
   refine OA.p (some 5) (.bool true) rfl rfl rfl rfl ?_
   refine OA.nil ?_
   intro _
   refine RA.ret env_ok ?_
   refine ⟨.inr rfl, [(.agg ⟨(cPrt (l.getD i dPrt))⟩), (.bool true)], (resL_cons (res_cellA rfl rfl rfl get_here rfl rfl rfl) (resL_cons rfl resL_nil)), (by rw [hi2, at_yes (by omega) hc2]; rfl), (kc2 (by omega))⟩
  ·
   refine OA.p (some 19) (.bool false) rfl rfl rfl (Eq.trans (r_bin rfl rfl rfl (b_eql rfl)) (dF hc2)) ?_
   refine OA.nil ?_
   intro _
   refine RA.condF rfl ?_
   refine RA.skip env_ok ?_
   intro _
   refine RA.region env_ok ?_
   refine OA.p (some 11) (.int .i64 ((i : Nat) : Int)) rfl rfl rfl rfl ?_
   refine OA.p (some 12) (.int .i64 (((i + 1) : Nat) : Int)) rfl rfl rfl (r_bin rfl rfl rfl (b_add (i64_eq (by omega)))) ?_
   refine OA.p (some 6) (.int .i64 (((i + 1) : Nat) : Int)) rfl rfl rfl rfl ?_
   refine OA.nil ?_
   refine ⟨(N - (i + 1)), by omega, [(n, some ⟨[xRs11], 15, 54, true⟩)], (Less.refl _ _ _), (i + 1), rfl, by omega, ⟨rfl, rfl, rfl, rfl, trivial⟩, rfl, (kb1 (by omega)), ⟨by omega, at_no (by omega) hi2 hc2⟩⟩
 ·
  refine OA.p (some 10) (.bool false) rfl rfl rfl (Eq.trans (r_bin rfl rfl rfl (b_lss rfl)) (dF hc1)) ?_
  refine OA.nil ?_
  intro _
  refine RA.condF rfl ?_
  refine RA.exit env_ok ?_
  intro _
  refine RA.seq hd ?_
  refine RA.region env_ok ?_
  refine OA.p (some 24) (.agg ⟨xRs11⟩) rfl rfl rfl (by kernel_rfl) ?_
  refine OA.op1 (dst := none) (v := (.tuple #[])) (n1 := n1) (w := (n, some ⟨[xRs11], 15, 54, true⟩)) rfl rfl rfl (r_store rfl rfl rfl rfl rfl rfl rfl get_here rfl rfl (Nat.le_of_ble_eq_true rfl) rfl) (by omega) ?_
  refine OA.p (some 5) (.bool false) rfl rfl rfl rfl ?_
  refine OA.nil ?_
  intro _
  refine RA.ret env_ok ?_
  refine ⟨.inr rfl, [(.agg ⟨xRs11⟩), (.bool false)], (resL_cons (res_cellA rfl rfl rfl get_here rfl rfl rfl) (resL_cons rfl resL_nil)), (by rw [hi2, List.drop_of_length_le (by omega)]; rfl), (kc2 (by omega))⟩

theorem sAr0 {σ : Store} (p jp K : Nat) (l : List Prt) (hl : l.length = K) (hK : K ≤ 1000) (i : Nat) (hi : i < K) (G U : Option Nat) (hG : fromL l i = G) (hU : toL l (l.length - i) i = U) (hp : σ p = some ⟨[[(.slice (some ⟨jp, 0, none⟩) K 2)]], 1, 122, true⟩) (hjp : σ jp = some (oPrt l))  : PS Try.prog noDen 74 [(Pt p 0 0), (.int .i64 ((i : Nat) : Int))] σ (arV (arL l i)) := by
 refine PS.body (E := env) env_ok rfl rfl (by show _ ≤ _; exact of_decide_eq_true (by kernel_rfl)) (fun n hd => ?_)
 have lhp := hd.lt hp
 have lhjp := hd.lt hjp
 refine RA.seq hd ?_
 refine RA.region env_ok ?_
 refine OA.p (some 4) (.int .i64 0) rfl rfl rfl rfl ?_
 refine OA.p (some 5) (.int .i64 0) rfl rfl rfl rfl ?_
 refine OA.p (some 6) (.bool false) rfl rfl rfl rfl ?_
 refine OA.nil ?_
 intro _
 refine RA.seq hd ?_
 refine RA.region env_ok ?_
 refine OA.p (some 9) (.int .i64 ((i : Nat) : Int)) rfl rfl rfl rfl ?_
 refine OA.p (some 10) (.int .i64 ((i : Nat) : Int)) rfl rfl rfl rfl ?_
 refine OA.p (some 7) (.int .i64 ((i : Nat) : Int)) rfl rfl rfl rfl ?_
 refine OA.p (some 8) (.int .i64 ((i : Nat) : Int)) rfl rfl rfl rfl ?_
 refine OA.nil ?_
 intro _
 refine RA.seq hd ?_
 refine RA.block ?_
 refine RA.loop hd (fun kk_ τ n' D => ∃ f : Nat,  kk_ = (2 * f) ∧ n ≤ n' ∧ Has τ [(0, (Pt p 0 0)), (7, (.int .i64 ((f : Nat) : Int))), (8, (.int .i64 ((i : Nat) : Int)))] ∧ D = [] ∧ (∀ i ∈ keys D, i < n') ∧ f ≤ i ∧ fromL l f = G) ((2 * i)) ⟨i, rfl, by omega, ⟨rfl, rfl, rfl, trivial⟩, rfl, (fun i hi => by cases hi), ⟨by omega, hG⟩⟩ ?_
 rintro kn1 τ1 n1 _ ⟨f, rfl, hn1, hHn1, rfl, hKn1, hIn1⟩
 rw [Has.eq hHn1]
 simp only [keys, List.map, List.forall_mem_cons, List.mem_cons, List.not_mem_nil, false_imp_iff, implies_true, and_true] at hKn1
 obtain ⟨hf1, hf2⟩ := hIn1
 refine RA.seq hd ?_
 refine RA.seq hd ?_
 refine RA.region env_ok ?_
 refine OA.p (some 11) (Pt p 0 0) rfl rfl rfl rfl ?_
 refine OA.p (some 12) (Pt p 0 0) rfl rfl rfl rfl ?_
 refine OA.p (some 13) (Pt p 0 0) rfl rfl rfl rfl ?_
 refine OA.p (some 14) (.slice (some ⟨jp, 0, none⟩) K 2) rfl rfl rfl (r_load1 rfl rfl rfl rfl rfl hp rfl rfl) ?_
 refine OA.p (some 15) (.int .i64 ((f : Nat) : Int)) rfl rfl rfl rfl ?_
 refine OA.p (some 16) (Pt jp f 0) rfl rfl rfl (r_iaS (l := f) rfl rfl rfl rfl rfl rfl (by omega) (by omega) hjp rfl (by omega)) ?_
 refine OA.p (some 17) (Pt jp f 1) rfl rfl rfl rfl ?_
 refine OA.p (some 18) (.int .i64 (((l.getD f dPrt).fl.val : Nat) : Int)) rfl rfl rfl (r_loadF (c := cPrt) dPrt rfl rfl rfl rfl rfl hjp (by rw [hl]; omega) rfl) ?_
 refine OA.p (some 19) (.int .i64 ((((l.getD f dPrt).fl.val / 2 % 2 * 2) : Nat) : Int)) rfl rfl rfl (Eq.trans (r_bin rfl rfl rfl (b_andN (((l.getD f dPrt).fl.val : Nat) : Int) 2 (by decide))) (by rw [and_f2 (l.getD f dPrt).fl])) ?_
 by_cases hc1 : ((((l.getD f dPrt).fl.val / 2 % 2 * 2) : Nat) : Int) = 0
 ·
  refine OA.p (some 20) (.bool true) rfl rfl rfl (Eq.trans (r_bin rfl rfl rfl (b_eql rfl)) (dT hc1)) ?_
  refine OA.nil ?_
  intro _
  refine RA.condT rfl ?_
  refine RA.skip env_ok ?_
  intro _
  refine RA.block ?_
  refine RA.seq hd ?_
  refine RA.seq hd ?_
  refine RA.par (md := [some [], some [], some [], some [], some [], some [], some [p], some [], some [], none, none, some [], some [], some [], some [p], some [], none, none, some [], some [], some []]) env_ok (hd.up (by omega)) (by kernel_rfl) ?_
  refine PQ.pure (dst := (some 21)) (v := (.int .i64 ((f : Nat) : Int))) rfl rfl rfl noStore (none_ok _ _) rfl ?_
  by_cases hc2 : ((f : Nat) : Int) = 0
  ·
   refine PQ.pure (dst := (some 22)) (v := (.bool true)) rfl rfl rfl noStore (none_ok _ _) (Eq.trans (r_bin rfl rfl rfl (b_eql rfl)) (dT hc2)) ?_
   refine PQ.pure (dst := (some 23)) (v := (.bool true)) rfl rfl rfl noStore (none_ok _ _) rfl ?_
   refine PQ.off (dst := (some 24)) rfl rfl rfl ?_
   refine PQ.off (dst := (some 25)) rfl rfl rfl ?_
   refine PQ.off (dst := (some 26)) rfl rfl rfl ?_
   refine PQ.off (dst := (some 27)) rfl rfl rfl ?_
   refine PQ.off (dst := (some 28)) rfl rfl rfl ?_
   refine PQ.off (dst := (some 29)) rfl rfl rfl ?_
   refine PQ.off (dst := (some 30)) rfl rfl rfl ?_
   refine PQ.off (dst := (some 31)) rfl rfl rfl ?_
   refine PQ.off (dst := (some 32)) rfl rfl rfl ?_
   refine PQ.off (dst := (some 33)) rfl rfl rfl ?_
   refine PQ.off (dst := (some 34)) rfl rfl rfl ?_
   refine PQ.off (dst := (some 35)) rfl rfl rfl ?_
   refine PQ.off (dst := (some 36)) rfl rfl rfl ?_
   refine PQ.off (dst := (some 37)) rfl rfl rfl ?_
   refine PQ.off (dst := (some 38)) rfl rfl rfl ?_
   refine PQ.off (dst := (some 39)) rfl rfl rfl ?_
   refine PQ.off (dst := (some 40)) rfl rfl rfl ?_
   refine PQ.pure (dst := (some 41)) (v := (.bool true)) rfl rfl rfl noStore (none_ok _ _) rfl ?_
   refine PQ.done (d := []) (by kernel_rfl) ?_
   intro _
   refine RA.rebase [(0, (Pt p 0 0)), (7, (.int .i64 ((f : Nat) : Int))), (8, (.int .i64 ((i : Nat) : Int))), (20, (.bool true)), (41, (.bool true))] ⟨rfl, rfl, rfl, rfl, rfl, trivial⟩ (fun τr2 => ?_)
   refine RA.condT rfl ?_
   refine RA.seq hd ?_
   refine RA.region env_ok ?_
   refine OA.p (some 4) (.int .i64 0) rfl rfl rfl rfl ?_
   refine OA.p (some 5) (.int .i64 0) rfl rfl rfl rfl ?_
   refine OA.p (some 6) (.bool false) rfl rfl rfl rfl ?_
   refine OA.nil ?_
   intro _
   refine RA.ret env_ok ?_
   refine ⟨.inr rfl, [(.int .i64 0), (.int .i64 0), (.bool false)], (resL_cons rfl (resL_cons rfl (resL_cons rfl resL_nil))), (by unfold arL; rw [hG, show G = none from hf2.symm.trans (from_0 (by omega) hc1)]; rfl), (fun i hi => by cases hi)⟩
  ·
   refine PQ.pure (dst := (some 22)) (v := (.bool false)) rfl rfl rfl noStore (none_ok _ _) (Eq.trans (r_bin rfl rfl rfl (b_eql rfl)) (dF hc2)) ?_
   refine PQ.pure (dst := (some 23)) (v := (.bool false)) rfl rfl rfl noStore (none_ok _ _) rfl ?_
   refine PQ.pure (dst := (some 24)) (v := (Pt p 0 0)) rfl rfl rfl noStore (none_ok _ _) rfl ?_
   refine PQ.pure (dst := (some 25)) (v := (Pt p 0 0)) rfl rfl rfl noStore (none_ok _ _) rfl ?_
   refine PQ.pure (dst := (some 26)) (v := (Pt p 0 0)) rfl rfl rfl noStore (none_ok _ _) rfl ?_
   refine PQ.pure (dst := (some 27)) (v := (.slice (some ⟨jp, 0, none⟩) K 2)) rfl rfl rfl (app [(p, some ⟨[[(.slice (some ⟨jp, 0, none⟩) K 2)]], 1, 122, true⟩)] noStore) (seen_one (V := []) (D := []) (by kernel_rfl) hp) (r_load1 rfl rfl rfl rfl rfl get_here rfl rfl) ?_
   refine PQ.pure (dst := (some 28)) (v := (.int .i64 ((f : Nat) : Int))) rfl rfl rfl noStore (none_ok _ _) rfl ?_
   refine PQ.pure (dst := (some 29)) (v := (.int .i64 (((f - 1) : Nat) : Int))) rfl rfl rfl noStore (none_ok _ _) (r_bin rfl rfl rfl (b_sub (i64_eq (by omega)))) ?_
   refine PQ.pure (dst := (some 30)) (v := (.pointer (some ⟨jp, (f - 1), some 0⟩))) rfl rfl rfl _ (seen_any (V := []) (D := []) (by kernel_rfl)) (r_iaS (l := (f - 1)) rfl rfl rfl rfl rfl rfl (by omega) (by omega) hjp rfl (by omega)) ?_
   refine PQ.pure (dst := (some 31)) (v := (.agg ⟨(cPrt (l.getD (f - 1) dPrt))⟩)) rfl rfl rfl _ (seen_any (V := []) (D := []) (by kernel_rfl)) (r_loadR (c := cPrt) dPrt rfl rfl rfl rfl hjp (by rw [hl]; omega) rfl) ?_
   refine PQ.pure (dst := (some 32)) (v := (Pt p 0 0)) rfl rfl rfl noStore (none_ok _ _) rfl ?_
   refine PQ.pure (dst := (some 33)) (v := (Pt p 0 0)) rfl rfl rfl noStore (none_ok _ _) rfl ?_
   refine PQ.pure (dst := (some 34)) (v := (Pt p 0 0)) rfl rfl rfl noStore (none_ok _ _) rfl ?_
   refine PQ.pure (dst := (some 35)) (v := (.slice (some ⟨jp, 0, none⟩) K 2)) rfl rfl rfl (app [(p, some ⟨[[(.slice (some ⟨jp, 0, none⟩) K 2)]], 1, 122, true⟩)] noStore) (seen_one (V := []) (D := []) (by kernel_rfl) hp) (r_load1 rfl rfl rfl rfl rfl get_here rfl rfl) ?_
   refine PQ.pure (dst := (some 36)) (v := (.int .i64 ((f : Nat) : Int))) rfl rfl rfl noStore (none_ok _ _) rfl ?_
   refine PQ.pure (dst := (some 37)) (v := (Pt jp f 0)) rfl rfl rfl _ (seen_any (V := []) (D := []) (by kernel_rfl)) (r_iaS (l := f) rfl rfl rfl rfl rfl rfl (by omega) (by omega) hjp rfl (by omega)) ?_
   refine PQ.pure (dst := (some 38)) (v := (.agg ⟨(cPrt (l.getD f dPrt))⟩)) rfl rfl rfl _ (seen_any (V := []) (D := []) (by kernel_rfl)) (r_loadR (c := cPrt) dPrt rfl rfl rfl rfl hjp (by rw [hl]; omega) rfl) ?_
   by_cases hc3 : fits (l.getD (f - 1) dPrt) (l.getD f dPrt)
   ·
    refine PQ.callP (dst := (some 39)) (all := [(.agg ⟨(cPrt (l.getD (f - 1) dPrt))⟩), (.agg ⟨(cPrt (l.getD f dPrt))⟩)]) (v := (.bool true)) noStore (dom_none _) rfl rfl rfl rfl rfl rfl rfl rfl (none_ok _ _) (PS.to (sFits (l.getD (f - 1) dPrt) (l.getD f dPrt)) (show (.bool (decide (fits (l.getD (f - 1) dPrt) (l.getD f dPrt)))) = ((.bool true) : Value) from (by first | (rw [decide_eq_true hc3]; done) | (rw [decide_eq_true hc3]; rfl)))) ?_
    intro n3 hn3
    refine PQ.pure (dst := (some 40)) (v := (.bool false)) rfl rfl rfl noStore (none_ok _ _) rfl ?_
    refine PQ.pure (dst := (some 41)) (v := (.bool false)) rfl rfl rfl noStore (none_ok _ _) rfl ?_
    refine PQ.done (d := []) (by kernel_rfl) ?_
    intro _
    refine RA.rebase [(0, (Pt p 0 0)), (7, (.int .i64 ((f : Nat) : Int))), (8, (.int .i64 ((i : Nat) : Int))), (20, (.bool true)), (41, (.bool false))] ⟨rfl, rfl, rfl, rfl, rfl, trivial⟩ (fun τr4 => ?_)
    refine RA.condF rfl ?_
    refine RA.skip env_ok ?_
    intro _
    refine RA.region env_ok ?_
    refine OA.p (some 42) (.int .i64 ((f : Nat) : Int)) rfl rfl rfl rfl ?_
    refine OA.p (some 43) (.int .i64 (((f - 1) : Nat) : Int)) rfl rfl rfl (r_bin rfl rfl rfl (b_sub (i64_eq (by omega)))) ?_
    refine OA.p (some 7) (.int .i64 (((f - 1) : Nat) : Int)) rfl rfl rfl rfl ?_
    refine OA.nil ?_
    refine ⟨(2 * (f - 1)), by omega, [], (Less.refl _ _ _), (f - 1), rfl, by omega, ⟨rfl, rfl, rfl, trivial⟩, rfl, (fun i hi => by cases hi), ⟨by omega, (from_s (by omega) hc1 hc3).symm.trans hf2⟩⟩
   ·
    refine PQ.callP (dst := (some 39)) (all := [(.agg ⟨(cPrt (l.getD (f - 1) dPrt))⟩), (.agg ⟨(cPrt (l.getD f dPrt))⟩)]) (v := (.bool false)) noStore (dom_none _) rfl rfl rfl rfl rfl rfl rfl rfl (none_ok _ _) (PS.to (sFits (l.getD (f - 1) dPrt) (l.getD f dPrt)) (show (.bool (decide (fits (l.getD (f - 1) dPrt) (l.getD f dPrt)))) = ((.bool false) : Value) from (by first | (rw [decide_eq_false hc3]; done) | (rw [decide_eq_false hc3]; rfl)))) ?_
    intro n5 hn5
    refine PQ.pure (dst := (some 40)) (v := (.bool true)) rfl rfl rfl noStore (none_ok _ _) rfl ?_
    refine PQ.pure (dst := (some 41)) (v := (.bool true)) rfl rfl rfl noStore (none_ok _ _) rfl ?_
    refine PQ.done (d := []) (by kernel_rfl) ?_
    intro _
    refine RA.rebase [(0, (Pt p 0 0)), (7, (.int .i64 ((f : Nat) : Int))), (8, (.int .i64 ((i : Nat) : Int))), (20, (.bool true)), (41, (.bool true))] ⟨rfl, rfl, rfl, rfl, rfl, trivial⟩ (fun τr6 => ?_)
    refine RA.condT rfl ?_
    refine RA.seq hd ?_
    refine RA.region env_ok ?_
    refine OA.p (some 4) (.int .i64 0) rfl rfl rfl rfl ?_
    refine OA.p (some 5) (.int .i64 0) rfl rfl rfl rfl ?_
    refine OA.p (some 6) (.bool false) rfl rfl rfl rfl ?_
    refine OA.nil ?_
    intro _
    refine RA.ret env_ok ?_
    refine ⟨.inr rfl, [(.int .i64 0), (.int .i64 0), (.bool false)], (resL_cons rfl (resL_cons rfl (resL_cons rfl resL_nil))), (by unfold arL; rw [hG, show G = none from hf2.symm.trans (from_n hc1 hc3)]; rfl), (fun i hi => by cases hi)⟩
 ·
  refine OA.p (some 20) (.bool false) rfl rfl rfl (Eq.trans (r_bin rfl rfl rfl (b_eql rfl)) (dF hc1)) ?_
  refine OA.nil ?_
  intro _
  refine RA.condF rfl ?_
  refine RA.exit env_ok ?_
  intro _
  refine RA.seq hd ?_
  refine RA.block ?_
  have hGf : G = some f := hf2.symm.trans (from_stop hc1)
  refine RA.loop hd (fun kk_ τ n' D => ∃ u : Nat,  kk_ = (K - u) ∧ n1 ≤ n' ∧ Has τ [(0, (Pt p 0 0)), (7, (.int .i64 ((f : Nat) : Int))), (8, (.int .i64 ((u : Nat) : Int)))] ∧ D = [] ∧ (∀ i ∈ keys D, i < n') ∧ i ≤ u ∧ u < K ∧ toL l (l.length - u) u = U) ((K - i)) ⟨i, rfl, by omega, ⟨rfl, rfl, rfl, trivial⟩, rfl, (fun i hi => by cases hi), ⟨by omega, by omega, hU⟩⟩ ?_
  rintro kn7 τ7 n7 _ ⟨u, rfl, hn7, hHn7, rfl, hKn7, hIn7⟩
  rw [Has.eq hHn7]
  simp only [keys, List.map, List.forall_mem_cons, List.mem_cons, List.not_mem_nil, false_imp_iff, implies_true, and_true] at hKn7
  obtain ⟨hu1, hu2, hu3⟩ := hIn7
  refine RA.seq hd ?_
  refine RA.seq hd ?_
  refine RA.region env_ok ?_
  refine OA.p (some 44) (Pt p 0 0) rfl rfl rfl rfl ?_
  refine OA.p (some 45) (Pt p 0 0) rfl rfl rfl rfl ?_
  refine OA.p (some 46) (Pt p 0 0) rfl rfl rfl rfl ?_
  refine OA.p (some 47) (.slice (some ⟨jp, 0, none⟩) K 2) rfl rfl rfl (r_load1 rfl rfl rfl rfl rfl hp rfl rfl) ?_
  refine OA.p (some 48) (.int .i64 ((u : Nat) : Int)) rfl rfl rfl rfl ?_
  refine OA.p (some 49) (Pt jp u 0) rfl rfl rfl (r_iaS (l := u) rfl rfl rfl rfl rfl rfl (by omega) (by omega) hjp rfl (by omega)) ?_
  refine OA.p (some 50) (Pt jp u 1) rfl rfl rfl rfl ?_
  refine OA.p (some 51) (.int .i64 (((l.getD u dPrt).fl.val : Nat) : Int)) rfl rfl rfl (r_loadF (c := cPrt) dPrt rfl rfl rfl rfl rfl hjp (by rw [hl]; omega) rfl) ?_
  refine OA.p (some 52) (.int .i64 ((((l.getD u dPrt).fl.val % 2) : Nat) : Int)) rfl rfl rfl (Eq.trans (r_bin rfl rfl rfl (b_andN (((l.getD u dPrt).fl.val : Nat) : Int) 1 (by decide))) (by rw [and_f1 (l.getD u dPrt).fl])) ?_
  by_cases hc4 : ((((l.getD u dPrt).fl.val % 2) : Nat) : Int) = 0
  ·
   refine OA.p (some 53) (.bool true) rfl rfl rfl (Eq.trans (r_bin rfl rfl rfl (b_eql rfl)) (dT hc4)) ?_
   refine OA.nil ?_
   intro _
   refine RA.condT rfl ?_
   refine RA.skip env_ok ?_
   intro _
   refine RA.block ?_
   refine RA.seq hd ?_
   refine RA.seq hd ?_
   refine RA.par (md := [some [], some [], some [], some [], some [], some [p], some [], some [], some [], some [], some [], some [], some [p], some [], none, none, some [], some [], some [], some [p], some [], some [], none, none, some [], some [], some []]) env_ok (hd.up (by omega)) (by kernel_rfl) ?_
   refine PQ.pure (dst := (some 54)) (v := (.int .i64 ((u : Nat) : Int))) rfl rfl rfl noStore (none_ok _ _) rfl ?_
   refine PQ.pure (dst := (some 55)) (v := (.int .i64 (((u + 1) : Nat) : Int))) rfl rfl rfl noStore (none_ok _ _) (r_bin rfl rfl rfl (b_add (i64_eq (by omega)))) ?_
   refine PQ.pure (dst := (some 56)) (v := (Pt p 0 0)) rfl rfl rfl noStore (none_ok _ _) rfl ?_
   refine PQ.pure (dst := (some 57)) (v := (Pt p 0 0)) rfl rfl rfl noStore (none_ok _ _) rfl ?_
   refine PQ.pure (dst := (some 58)) (v := (Pt p 0 0)) rfl rfl rfl noStore (none_ok _ _) rfl ?_
   refine PQ.pure (dst := (some 59)) (v := (.slice (some ⟨jp, 0, none⟩) K 2)) rfl rfl rfl (app [(p, some ⟨[[(.slice (some ⟨jp, 0, none⟩) K 2)]], 1, 122, true⟩)] noStore) (seen_one (V := []) (D := []) (by kernel_rfl) hp) (r_load1 rfl rfl rfl rfl rfl get_here rfl rfl) ?_
   refine PQ.pure (dst := (some 60)) (v := (.int .i64 ((K : Nat) : Int))) rfl rfl rfl noStore (none_ok _ _) rfl ?_
   by_cases hc5 : (((u + 1) : Nat) : Int) = ((K : Nat) : Int)
   ·
    refine PQ.pure (dst := (some 61)) (v := (.bool true)) rfl rfl rfl noStore (none_ok _ _) (Eq.trans (r_bin rfl rfl rfl (b_eql rfl)) (dT hc5)) ?_
    refine PQ.pure (dst := (some 62)) (v := (.bool true)) rfl rfl rfl noStore (none_ok _ _) rfl ?_
    refine PQ.off (dst := (some 63)) rfl rfl rfl ?_
    refine PQ.off (dst := (some 64)) rfl rfl rfl ?_
    refine PQ.off (dst := (some 65)) rfl rfl rfl ?_
    refine PQ.off (dst := (some 66)) rfl rfl rfl ?_
    refine PQ.off (dst := (some 67)) rfl rfl rfl ?_
    refine PQ.off (dst := (some 68)) rfl rfl rfl ?_
    refine PQ.off (dst := (some 69)) rfl rfl rfl ?_
    refine PQ.off (dst := (some 70)) rfl rfl rfl ?_
    refine PQ.off (dst := (some 71)) rfl rfl rfl ?_
    refine PQ.off (dst := (some 72)) rfl rfl rfl ?_
    refine PQ.off (dst := (some 73)) rfl rfl rfl ?_
    refine PQ.off (dst := (some 74)) rfl rfl rfl ?_
    refine PQ.off (dst := (some 75)) rfl rfl rfl ?_
    refine PQ.off (dst := (some 76)) rfl rfl rfl ?_
    refine PQ.off (dst := (some 77)) rfl rfl rfl ?_
    refine PQ.off (dst := (some 78)) rfl rfl rfl ?_
    refine PQ.off (dst := (some 79)) rfl rfl rfl ?_
    refine PQ.pure (dst := (some 80)) (v := (.bool true)) rfl rfl rfl noStore (none_ok _ _) rfl ?_
    refine PQ.done (d := []) (by kernel_rfl) ?_
    intro _
    refine RA.rebase [(0, (Pt p 0 0)), (7, (.int .i64 ((f : Nat) : Int))), (8, (.int .i64 ((u : Nat) : Int))), (53, (.bool true)), (80, (.bool true))] ⟨rfl, rfl, rfl, rfl, rfl, trivial⟩ (fun τr8 => ?_)
    refine RA.condT rfl ?_
    refine RA.seq hd ?_
    refine RA.region env_ok ?_
    refine OA.p (some 4) (.int .i64 0) rfl rfl rfl rfl ?_
    refine OA.p (some 5) (.int .i64 0) rfl rfl rfl rfl ?_
    refine OA.p (some 6) (.bool false) rfl rfl rfl rfl ?_
    refine OA.nil ?_
    intro _
    refine RA.ret env_ok ?_
    refine ⟨.inr rfl, [(.int .i64 0), (.int .i64 0), (.bool false)], (resL_cons rfl (resL_cons rfl (resL_cons rfl resL_nil))), (by unfold arL; rw [hG, hGf, hU, show U = none from hu3.symm.trans (to_last hc4 (by omega))]; rfl), (fun i hi => by cases hi)⟩
   ·
    refine PQ.pure (dst := (some 61)) (v := (.bool false)) rfl rfl rfl noStore (none_ok _ _) (Eq.trans (r_bin rfl rfl rfl (b_eql rfl)) (dF hc5)) ?_
    refine PQ.pure (dst := (some 62)) (v := (.bool false)) rfl rfl rfl noStore (none_ok _ _) rfl ?_
    refine PQ.pure (dst := (some 63)) (v := (Pt p 0 0)) rfl rfl rfl noStore (none_ok _ _) rfl ?_
    refine PQ.pure (dst := (some 64)) (v := (Pt p 0 0)) rfl rfl rfl noStore (none_ok _ _) rfl ?_
    refine PQ.pure (dst := (some 65)) (v := (Pt p 0 0)) rfl rfl rfl noStore (none_ok _ _) rfl ?_
    refine PQ.pure (dst := (some 66)) (v := (.slice (some ⟨jp, 0, none⟩) K 2)) rfl rfl rfl (app [(p, some ⟨[[(.slice (some ⟨jp, 0, none⟩) K 2)]], 1, 122, true⟩)] noStore) (seen_one (V := []) (D := []) (by kernel_rfl) hp) (r_load1 rfl rfl rfl rfl rfl get_here rfl rfl) ?_
    refine PQ.pure (dst := (some 67)) (v := (.int .i64 ((u : Nat) : Int))) rfl rfl rfl noStore (none_ok _ _) rfl ?_
    refine PQ.pure (dst := (some 68)) (v := (Pt jp u 0)) rfl rfl rfl _ (seen_any (V := []) (D := []) (by kernel_rfl)) (r_iaS (l := u) rfl rfl rfl rfl rfl rfl (by omega) (by omega) hjp rfl (by omega)) ?_
    refine PQ.pure (dst := (some 69)) (v := (.agg ⟨(cPrt (l.getD u dPrt))⟩)) rfl rfl rfl _ (seen_any (V := []) (D := []) (by kernel_rfl)) (r_loadR (c := cPrt) dPrt rfl rfl rfl rfl hjp (by rw [hl]; omega) rfl) ?_
    refine PQ.pure (dst := (some 70)) (v := (Pt p 0 0)) rfl rfl rfl noStore (none_ok _ _) rfl ?_
    refine PQ.pure (dst := (some 71)) (v := (Pt p 0 0)) rfl rfl rfl noStore (none_ok _ _) rfl ?_
    refine PQ.pure (dst := (some 72)) (v := (Pt p 0 0)) rfl rfl rfl noStore (none_ok _ _) rfl ?_
    refine PQ.pure (dst := (some 73)) (v := (.slice (some ⟨jp, 0, none⟩) K 2)) rfl rfl rfl (app [(p, some ⟨[[(.slice (some ⟨jp, 0, none⟩) K 2)]], 1, 122, true⟩)] noStore) (seen_one (V := []) (D := []) (by kernel_rfl) hp) (r_load1 rfl rfl rfl rfl rfl get_here rfl rfl) ?_
    refine PQ.pure (dst := (some 74)) (v := (.int .i64 ((u : Nat) : Int))) rfl rfl rfl noStore (none_ok _ _) rfl ?_
    refine PQ.pure (dst := (some 75)) (v := (.int .i64 (((u + 1) : Nat) : Int))) rfl rfl rfl noStore (none_ok _ _) (r_bin rfl rfl rfl (b_add (i64_eq (by omega)))) ?_
    refine PQ.pure (dst := (some 76)) (v := (.pointer (some ⟨jp, (u + 1), some 0⟩))) rfl rfl rfl _ (seen_any (V := []) (D := []) (by kernel_rfl)) (r_iaS (l := (u + 1)) rfl rfl rfl rfl rfl rfl (by omega) (by omega) hjp rfl (by omega)) ?_
    refine PQ.pure (dst := (some 77)) (v := (.agg ⟨(cPrt (l.getD (u + 1) dPrt))⟩)) rfl rfl rfl _ (seen_any (V := []) (D := []) (by kernel_rfl)) (r_loadR (c := cPrt) dPrt rfl rfl rfl rfl hjp (by rw [hl]; omega) rfl) ?_
    by_cases hc6 : fits (l.getD u dPrt) (l.getD (u + 1) dPrt)
    ·
     refine PQ.callP (dst := (some 78)) (all := [(.agg ⟨(cPrt (l.getD u dPrt))⟩), (.agg ⟨(cPrt (l.getD (u + 1) dPrt))⟩)]) (v := (.bool true)) noStore (dom_none _) rfl rfl rfl rfl rfl rfl rfl rfl (none_ok _ _) (PS.to (sFits (l.getD u dPrt) (l.getD (u + 1) dPrt)) (show (.bool (decide (fits (l.getD u dPrt) (l.getD (u + 1) dPrt)))) = ((.bool true) : Value) from (by first | (rw [decide_eq_true hc6]; done) | (rw [decide_eq_true hc6]; rfl)))) ?_
     intro n9 hn9
     refine PQ.pure (dst := (some 79)) (v := (.bool false)) rfl rfl rfl noStore (none_ok _ _) rfl ?_
     refine PQ.pure (dst := (some 80)) (v := (.bool false)) rfl rfl rfl noStore (none_ok _ _) rfl ?_
     refine PQ.done (d := []) (by kernel_rfl) ?_
     intro _
     refine RA.rebase [(0, (Pt p 0 0)), (7, (.int .i64 ((f : Nat) : Int))), (8, (.int .i64 ((u : Nat) : Int))), (53, (.bool true)), (80, (.bool false))] ⟨rfl, rfl, rfl, rfl, rfl, trivial⟩ (fun τr10 => ?_)
     refine RA.condF rfl ?_
     refine RA.skip env_ok ?_
     intro _
     refine RA.region env_ok ?_
     refine OA.p (some 81) (.int .i64 ((u : Nat) : Int)) rfl rfl rfl rfl ?_
     refine OA.p (some 82) (.int .i64 (((u + 1) : Nat) : Int)) rfl rfl rfl (r_bin rfl rfl rfl (b_add (i64_eq (by omega)))) ?_
     refine OA.p (some 8) (.int .i64 (((u + 1) : Nat) : Int)) rfl rfl rfl rfl ?_
     refine OA.nil ?_
     refine ⟨(K - (u + 1)), by omega, [], (Less.refl _ _ _), (u + 1), rfl, by omega, ⟨rfl, rfl, rfl, trivial⟩, rfl, (fun i hi => by cases hi), ⟨by omega, by omega, (to_s (by omega) hc4 hc6).symm.trans hu3⟩⟩
    ·
     refine PQ.callP (dst := (some 78)) (all := [(.agg ⟨(cPrt (l.getD u dPrt))⟩), (.agg ⟨(cPrt (l.getD (u + 1) dPrt))⟩)]) (v := (.bool false)) noStore (dom_none _) rfl rfl rfl rfl rfl rfl rfl rfl (none_ok _ _) (PS.to (sFits (l.getD u dPrt) (l.getD (u + 1) dPrt)) (show (.bool (decide (fits (l.getD u dPrt) (l.getD (u + 1) dPrt)))) = ((.bool false) : Value) from (by first | (rw [decide_eq_false hc6]; done) | (rw [decide_eq_false hc6]; rfl)))) ?_
     intro n11 hn11
     refine PQ.pure (dst := (some 79)) (v := (.bool true)) rfl rfl rfl noStore (none_ok _ _) rfl ?_
     refine PQ.pure (dst := (some 80)) (v := (.bool true)) rfl rfl rfl noStore (none_ok _ _) rfl ?_
     refine PQ.done (d := []) (by kernel_rfl) ?_
     intro _
     refine RA.rebase [(0, (Pt p 0 0)), (7, (.int .i64 ((f : Nat) : Int))), (8, (.int .i64 ((u : Nat) : Int))), (53, (.bool true)), (80, (.bool true))] ⟨rfl, rfl, rfl, rfl, rfl, trivial⟩ (fun τr12 => ?_)
     refine RA.condT rfl ?_
     refine RA.seq hd ?_
     refine RA.region env_ok ?_
     refine OA.p (some 4) (.int .i64 0) rfl rfl rfl rfl ?_
     refine OA.p (some 5) (.int .i64 0) rfl rfl rfl rfl ?_
     refine OA.p (some 6) (.bool false) rfl rfl rfl rfl ?_
     refine OA.nil ?_
     intro _
     refine RA.ret env_ok ?_
     refine ⟨.inr rfl, [(.int .i64 0), (.int .i64 0), (.bool false)], (resL_cons rfl (resL_cons rfl (resL_cons rfl resL_nil))), (by unfold arL; rw [hG, hGf, hU, show U = none from hu3.symm.trans (to_n hc4 hc6)]; rfl), (fun i hi => by cases hi)⟩
  ·
   refine OA.p (some 53) (.bool false) rfl rfl rfl (Eq.trans (r_bin rfl rfl rfl (b_eql rfl)) (dF hc4)) ?_
   refine OA.nil ?_
   intro _
   refine RA.condF rfl ?_
   refine RA.exit env_ok ?_
   intro _
   refine RA.seq hd ?_
   refine RA.region env_ok ?_
   refine OA.p (some 83) (.int .i64 ((f : Nat) : Int)) rfl rfl rfl rfl ?_
   refine OA.p (some 84) (.int .i64 ((u : Nat) : Int)) rfl rfl rfl rfl ?_
   refine OA.p (some 4) (.int .i64 ((f : Nat) : Int)) rfl rfl rfl rfl ?_
   refine OA.p (some 5) (.int .i64 ((u : Nat) : Int)) rfl rfl rfl rfl ?_
   refine OA.p (some 6) (.bool true) rfl rfl rfl rfl ?_
   refine OA.nil ?_
   intro _
   refine RA.ret env_ok ?_
   refine ⟨.inr rfl, [(.int .i64 ((f : Nat) : Int)), (.int .i64 ((u : Nat) : Int)), (.bool true)], (resL_cons rfl (resL_cons rfl (resL_cons rfl resL_nil))), (by unfold arL; rw [hG, hGf, hU, show U = some u from hu3.symm.trans (to_stop (by omega) hc4)]; rfl), (fun i hi => by cases hi)⟩

theorem sAr {σ : Store} (p jp K : Nat) (l : List Prt) (hl : l.length = K) (hK : K ≤ 1000) (i : Nat) (hi : i < K) (hp : σ p = some ⟨[[(.slice (some ⟨jp, 0, none⟩) K 2)]], 1, 122, true⟩) (hjp : σ jp = some (oPrt l)) : PS Try.prog noDen 74 [(Pt p 0 0), (.int .i64 ((i : Nat) : Int))] σ (arV (arL l i)) := sAr0 p jp K l hl hK i hi _ _ rfl rfl hp hjp
end Go.Proofs.Ytmepflkodjdgdaa.Vt
