/- Mh4: walks through functions of the program, by the calculus; written by a program of this workplace. -/
import Derived.Test.YtnjknabighmedaaMh3
import Derived.Test.YtnjknabighmedaaVm6
namespace Go.Proofs.Ytnjknabighmedaa.Vt
open Go Go.Proofs Go.Proofs.YtnjknabighmedaaV
set_option maxRecDepth 100000
set_option linter.unusedVariables false
set_option linter.unusedSimpArgs false
theorem sub_app {n n' : Nat} {σ : Store} {D : Delta} (hd : Dom n σ) (hk : ∀ i ∈ keys D, n ≤ i ∧ i < n') : Sub σ (app D σ) := by
  intro i o h
  have hi := hd.lt h
  induction D with
  | nil => exact h
  | cons a D ih =>
    obtain ⟨a, x⟩ := a
    have h1 : n ≤ a := (hk a (by simp [keys])).1
    simp only [app]
    rw [if_neg (by omega)]
    exact ih (fun j hj => hk j (by simp [keys] at hj ⊢; exact .inr hj))
theorem awakeM {σ : Store} : PS Try.prog noDen 36 [] σ (.bool true) := PS.closed env_ok rfl (F := 200) (k := 60) (by kernel_rfl) rfl rfl
theorem fS_nil {l : List Msg} (h : ∀ m ∈ l, okM m) {t : Nat} (ht : 2 ≤ t) : fS t l = [] :=
  List.filter_eq_nil_iff.2 (fun m hm hp => by have h1 := (ofP_o hp).2; have h2 := (h m hm).2.2.2; omega)
theorem ordA_eq {la lb : List Msg} (hb : ∀ m ∈ lb, okM m) : ordA la lb = orderB la lb := by
  rw [Bool.eq_iff_iff]
  constructor
  · intro h
    have h1 := List.all_eq_true.1 h
    unfold orderB
    rw [h1 0 (by decide), h1 1 (by decide)]; rfl
  · intro h
    unfold orderB at h
    rw [Bool.and_eq_true] at h
    refine List.all_eq_true.2 (fun t _ => ?_)
    rcases (show t = 0 ∨ t = 1 ∨ 2 ≤ t by omega) with rfl | rfl | ht
    · exact h.1
    · exact h.2
    · exact okB_iff.2 (by rw [fS_nil hb ht]; exact List.nil_prefix)
theorem fL_cnt {l : List Msg} {m : Msg} (h : m.loose = true) : (fL l).count m = l.count m := List.count_filter (by unfold ofP; simp [h])
theorem looA_eq {la lb : List Msg} : looA la lb = looseB la lb := by
  rw [Bool.eq_iff_iff]
  unfold looA looseB
  rw [List.all_eq_true, List.all_eq_true]
  constructor
  · intro h m hm
    unfold fitB
    cases hl : m.loose
    · rfl
    · have h1 := of_decide_eq_true (h m (List.mem_filter.2 ⟨hm, by unfold ofP; simp [hl]⟩))
      rw [fL_cnt hl, fL_cnt hl] at h1
      rw [decide_eq_true h1]; rfl
  · intro h m hm
    obtain ⟨h1, h2⟩ := List.mem_filter.1 hm
    have hl : m.loose = true := by unfold ofP at h2; simpa using h2
    have h3 := h m h1
    unfold fitB at h3
    rw [hl] at h3
    rw [fL_cnt hl, fL_cnt hl]
    simpa using h3
theorem held_eq {la lb : List Msg} (hb : ∀ m ∈ lb, okM m) {o l : Bool} (h1 : orderB la lb = o) (h2 : looseB la lb = l) : heldZ la lb = (if o = true then 0 else 1) + (if l = true then 0 else 2) := by
  unfold heldZ; rw [ordA_eq hb, looA_eq, h1, h2]
abbrev xMh41 (jcn1 : Nat) (l1 : List Msg) (jcn2 : Nat) (l2 : List Msg) : List Value := [(.slice (some ⟨jcn1, 0, none⟩) (min 20 l1.length) 2), (.slice (some ⟨jcn2, 0, none⟩) (min 20 l2.length) 2)]
set_option maxHeartbeats 4000000 in
theorem mLaw {n : Nat} {σ : Store} (hd : Dom n σ) (hn0 : 0 < n) (v1 v2 : Value) (l1 l2 : List Msg) (hv1 : RowP σ 117 5 v1 (l1.map cMsg)) (hv2 : RowP σ 117 5 v2 (l2.map cMsg))   : CQ Try.prog noDen 8 [v1, v2] n σ (fun v n' d => v = .bool true) := by
 refine CQ.body (E := env) env_ok hd rfl rfl (by show _ ≤ _; exact of_decide_eq_true (by kernel_rfl)) ?_
 refine RA.seq hd ?_
 refine RA.region env_ok ?_
 refine OA.p (some 4) (.bool false) rfl rfl rfl rfl ?_
 refine OA.nil ?_
 intro _
 refine RA.seq hd ?_
 refine RA.region env_ok ?_
 refine OA.p (some 8) v1 rfl rfl rfl rfl ?_
 refine OA.call (dst := (some 9)) (all := [v1]) rfl rfl rfl rfl rfl rfl rfl rfl (CQ.imp (mCut (hd.up (by omega)) (by omega) v1 l1 hv1) ?_)
 rintro _ n1 _ ⟨jcn1, c1n1, c2n1, rfl, rfl⟩ hn1
 refine OA.app1 ?_
 refine OA.p (some 10) v2 rfl rfl rfl rfl ?_
 refine OA.call (dst := (some 11)) (all := [v2]) rfl rfl rfl rfl rfl rfl rfl rfl (CQ.imp (mCut (hd.of (by omega) (kb1 (by omega))) (by omega) v2 l2 (hv2.mono (sub_app (n' := n1) hd (kc1 (by omega))))) ?_)
 rintro _ n2 _ ⟨jcn2, c1n2, c2n2, rfl, rfl⟩ hn2
 refine OA.app1 ?_
 refine OA.p (some 5) (.slice (some ⟨jcn1, 0, none⟩) (min 20 l1.length) 2) rfl rfl rfl rfl ?_
 refine OA.p (some 6) (.slice (some ⟨jcn2, 0, none⟩) (min 20 l2.length) 2) rfl rfl rfl rfl ?_
 refine OA.nil ?_
 intro _
 refine RA.seq hd ?_
 refine RA.region env_ok ?_
 refine OA.p (some 7) (.int .i64 0) rfl rfl rfl rfl ?_
 refine OA.nil ?_
 intro _
 refine RA.seq hd ?_
 refine RA.seq hd ?_
 refine RA.region env_ok ?_
 refine OA.p (some 12) (.slice (some ⟨jcn1, 0, none⟩) (min 20 l1.length) 2) rfl rfl rfl rfl ?_
 refine OA.p (some 13) (.slice (some ⟨jcn2, 0, none⟩) (min 20 l2.length) 2) rfl rfl rfl rfl ?_
 by_cases hc1 : (orderB (cutL l1) (cutL l2)) = true
 ·
  refine OA.callP (dst := (some 14)) (all := (xMh41 jcn1 l1 jcn2 l2)) (v := (.bool true)) (hd.of (by omega) (kb2 (by omega))) rfl rfl rfl rfl rfl rfl rfl rfl (PS.to (mOrd jcn1 jcn2 (min 20 l1.length) (min 20 l2.length) (cutL l1) (cutL l2) cutL_len cutL_len (by omega) (by omega) cutL_ok cutL_ok (get_there (by omega) get_here) get_here) (show (.bool (orderB (cutL l1) (cutL l2))) = ((.bool true) : Value) from (by first | (rw [hc1]; done) | (rw [hc1]; rfl)))) ?_
  intro n3 hn3
  refine OA.p (some 15) (.bool false) rfl rfl rfl rfl ?_
  refine OA.nil ?_
  intro _
  refine RA.condF rfl ?_
  refine RA.skip env_ok ?_
  intro _
  refine RA.seq hd ?_
  refine RA.seq hd ?_
  refine RA.region env_ok ?_
  refine OA.p (some 18) (.slice (some ⟨jcn1, 0, none⟩) (min 20 l1.length) 2) rfl rfl rfl rfl ?_
  refine OA.p (some 19) (.slice (some ⟨jcn2, 0, none⟩) (min 20 l2.length) 2) rfl rfl rfl rfl ?_
  by_cases hc2 : (looseB (cutL l1) (cutL l2)) = true
  ·
   refine OA.callP (dst := (some 20)) (all := (xMh41 jcn1 l1 jcn2 l2)) (v := (.bool true)) (hd.of (by omega) (kb2 (by omega))) rfl rfl rfl rfl rfl rfl rfl rfl (PS.to (mLoo jcn1 jcn2 (min 20 l1.length) (min 20 l2.length) (cutL l1) (cutL l2) cutL_len cutL_len (by omega) (by omega) cutL_ok cutL_ok (get_there (by omega) get_here) get_here) (show (.bool (looseB (cutL l1) (cutL l2))) = ((.bool true) : Value) from (by first | (rw [hc2]; done) | (rw [hc2]; rfl)))) ?_
   intro n4 hn4
   refine OA.p (some 21) (.bool false) rfl rfl rfl rfl ?_
   refine OA.nil ?_
   intro _
   refine RA.condF rfl ?_
   refine RA.skip env_ok ?_
   intro _
   refine RA.seq hd ?_
   refine RA.region env_ok ?_
   refine OA.callP (dst := (some 24)) (all := []) (v := (.bool true)) (hd.of (by omega) (kb2 (by omega))) rfl rfl rfl rfl rfl rfl rfl rfl awakeM ?_
   intro n5 hn5
   refine OA.p (some 25) (.bool true) rfl rfl rfl rfl ?_
   refine OA.p (some 26) (.slice (some ⟨jcn1, 0, none⟩) (min 20 l1.length) 2) rfl rfl rfl rfl ?_
   refine OA.p (some 27) (.slice (some ⟨jcn2, 0, none⟩) (min 20 l2.length) 2) rfl rfl rfl rfl ?_
   refine OA.call (dst := (some 28)) (all := (xMh41 jcn1 l1 jcn2 l2)) rfl rfl rfl rfl rfl rfl rfl rfl (CQ.imp (mHeld (hd.of (by omega) (kb2 (by omega))) jcn1 jcn2 (min 20 l1.length) (min 20 l2.length) (cutL l1) (cutL l2) cutL_len cutL_len (by omega) (by omega) cutL_ok cutL_ok (get_there (by omega) get_here) get_here) ?_)
   rintro _ n6 _ ⟨rfl, rfl⟩ hn6
   refine OA.app0 ?_
   refine OA.p (some 29) (.int .i64 0) rfl rfl rfl rfl ?_
   refine OA.p (some 30) (.bool (decide ((heldZ (cutL l1) (cutL l2)) = 0))) rfl rfl rfl (r_bin rfl rfl rfl (b_eql rfl)) ?_
   refine OA.p (some 31) (.bool (decide ((heldZ (cutL l1) (cutL l2)) = 0))) rfl rfl rfl rfl ?_
   refine OA.p (some 4) (.bool (decide ((heldZ (cutL l1) (cutL l2)) = 0))) rfl rfl rfl rfl ?_
   refine OA.nil ?_
   intro _
   refine RA.rebase [(0, v1), (1, v2), (4, (.bool (decide ((heldZ (cutL l1) (cutL l2)) = 0)))), (5, (.slice (some ⟨jcn1, 0, none⟩) (min 20 l1.length) 2)), (6, (.slice (some ⟨jcn2, 0, none⟩) (min 20 l2.length) 2)), (7, (.int .i64 0)), (15, (.bool false)), (21, (.bool false))] ⟨rfl, rfl, rfl, rfl, rfl, rfl, rfl, rfl, trivial⟩ (fun τr7 => ?_)
   refine RA.ret env_ok ?_
   refine ⟨.inr rfl, [(.bool (decide ((heldZ (cutL l1) (cutL l2)) = 0)))], (resL_cons rfl resL_nil), [], (Less.of (fun p hp => by simp at hp) (gone_of (by simp only [goneP, memP, List.cons_append, List.nil_append, true_or, or_true, true_and, and_true, or_false] <;> omega))), (congrArg Value.bool (decide_eq_true (held_eq cutL_ok hc1 hc2)))⟩
  ·
   refine OA.callP (dst := (some 20)) (all := (xMh41 jcn1 l1 jcn2 l2)) (v := (.bool false)) (hd.of (by omega) (kb2 (by omega))) rfl rfl rfl rfl rfl rfl rfl rfl (PS.to (mLoo jcn1 jcn2 (min 20 l1.length) (min 20 l2.length) (cutL l1) (cutL l2) cutL_len cutL_len (by omega) (by omega) cutL_ok cutL_ok (get_there (by omega) get_here) get_here) (show (.bool (looseB (cutL l1) (cutL l2))) = ((.bool false) : Value) from (by first | (rw [eq_false_of_ne_true hc2]; done) | (rw [eq_false_of_ne_true hc2]; rfl)))) ?_
   intro n8 hn8
   refine OA.p (some 21) (.bool true) rfl rfl rfl rfl ?_
   refine OA.nil ?_
   intro _
   refine RA.condT rfl ?_
   refine RA.region env_ok ?_
   refine OA.p (some 22) (.int .i64 0) rfl rfl rfl rfl ?_
   refine OA.p (some 23) (.int .i64 2) rfl rfl rfl (r_bin rfl rfl rfl (by kernel_rfl)) ?_
   refine OA.p (some 7) (.int .i64 2) rfl rfl rfl rfl ?_
   refine OA.nil ?_
   intro _
   refine RA.seq hd ?_
   refine RA.region env_ok ?_
   refine OA.callP (dst := (some 24)) (all := []) (v := (.bool true)) (hd.of (by omega) (kb2 (by omega))) rfl rfl rfl rfl rfl rfl rfl rfl awakeM ?_
   intro n9 hn9
   refine OA.p (some 25) (.bool true) rfl rfl rfl rfl ?_
   refine OA.p (some 26) (.slice (some ⟨jcn1, 0, none⟩) (min 20 l1.length) 2) rfl rfl rfl rfl ?_
   refine OA.p (some 27) (.slice (some ⟨jcn2, 0, none⟩) (min 20 l2.length) 2) rfl rfl rfl rfl ?_
   refine OA.call (dst := (some 28)) (all := (xMh41 jcn1 l1 jcn2 l2)) rfl rfl rfl rfl rfl rfl rfl rfl (CQ.imp (mHeld (hd.of (by omega) (kb2 (by omega))) jcn1 jcn2 (min 20 l1.length) (min 20 l2.length) (cutL l1) (cutL l2) cutL_len cutL_len (by omega) (by omega) cutL_ok cutL_ok (get_there (by omega) get_here) get_here) ?_)
   rintro _ n10 _ ⟨rfl, rfl⟩ hn10
   refine OA.app0 ?_
   refine OA.p (some 29) (.int .i64 2) rfl rfl rfl rfl ?_
   refine OA.p (some 30) (.bool (decide ((heldZ (cutL l1) (cutL l2)) = 2))) rfl rfl rfl (r_bin rfl rfl rfl (b_eql rfl)) ?_
   refine OA.p (some 31) (.bool (decide ((heldZ (cutL l1) (cutL l2)) = 2))) rfl rfl rfl rfl ?_
   refine OA.p (some 4) (.bool (decide ((heldZ (cutL l1) (cutL l2)) = 2))) rfl rfl rfl rfl ?_
   refine OA.nil ?_
   intro _
   refine RA.rebase [(0, v1), (1, v2), (4, (.bool (decide ((heldZ (cutL l1) (cutL l2)) = 2)))), (5, (.slice (some ⟨jcn1, 0, none⟩) (min 20 l1.length) 2)), (6, (.slice (some ⟨jcn2, 0, none⟩) (min 20 l2.length) 2)), (7, (.int .i64 2)), (15, (.bool false)), (21, (.bool true))] ⟨rfl, rfl, rfl, rfl, rfl, rfl, rfl, rfl, trivial⟩ (fun τr11 => ?_)
   refine RA.ret env_ok ?_
   refine ⟨.inr rfl, [(.bool (decide ((heldZ (cutL l1) (cutL l2)) = 2)))], (resL_cons rfl resL_nil), [], (Less.of (fun p hp => by simp at hp) (gone_of (by simp only [goneP, memP, List.cons_append, List.nil_append, true_or, or_true, true_and, and_true, or_false] <;> omega))), (congrArg Value.bool (decide_eq_true (held_eq cutL_ok hc1 (Bool.eq_false_iff.2 hc2))))⟩
 ·
  refine OA.callP (dst := (some 14)) (all := (xMh41 jcn1 l1 jcn2 l2)) (v := (.bool false)) (hd.of (by omega) (kb2 (by omega))) rfl rfl rfl rfl rfl rfl rfl rfl (PS.to (mOrd jcn1 jcn2 (min 20 l1.length) (min 20 l2.length) (cutL l1) (cutL l2) cutL_len cutL_len (by omega) (by omega) cutL_ok cutL_ok (get_there (by omega) get_here) get_here) (show (.bool (orderB (cutL l1) (cutL l2))) = ((.bool false) : Value) from (by first | (rw [eq_false_of_ne_true hc1]; done) | (rw [eq_false_of_ne_true hc1]; rfl)))) ?_
  intro n12 hn12
  refine OA.p (some 15) (.bool true) rfl rfl rfl rfl ?_
  refine OA.nil ?_
  intro _
  refine RA.condT rfl ?_
  refine RA.region env_ok ?_
  refine OA.p (some 16) (.int .i64 0) rfl rfl rfl rfl ?_
  refine OA.p (some 17) (.int .i64 1) rfl rfl rfl (r_bin rfl rfl rfl (by kernel_rfl)) ?_
  refine OA.p (some 7) (.int .i64 1) rfl rfl rfl rfl ?_
  refine OA.nil ?_
  intro _
  refine RA.seq hd ?_
  refine RA.seq hd ?_
  refine RA.region env_ok ?_
  refine OA.p (some 18) (.slice (some ⟨jcn1, 0, none⟩) (min 20 l1.length) 2) rfl rfl rfl rfl ?_
  refine OA.p (some 19) (.slice (some ⟨jcn2, 0, none⟩) (min 20 l2.length) 2) rfl rfl rfl rfl ?_
  by_cases hc3 : (looseB (cutL l1) (cutL l2)) = true
  ·
   refine OA.callP (dst := (some 20)) (all := (xMh41 jcn1 l1 jcn2 l2)) (v := (.bool true)) (hd.of (by omega) (kb2 (by omega))) rfl rfl rfl rfl rfl rfl rfl rfl (PS.to (mLoo jcn1 jcn2 (min 20 l1.length) (min 20 l2.length) (cutL l1) (cutL l2) cutL_len cutL_len (by omega) (by omega) cutL_ok cutL_ok (get_there (by omega) get_here) get_here) (show (.bool (looseB (cutL l1) (cutL l2))) = ((.bool true) : Value) from (by first | (rw [hc3]; done) | (rw [hc3]; rfl)))) ?_
   intro n13 hn13
   refine OA.p (some 21) (.bool false) rfl rfl rfl rfl ?_
   refine OA.nil ?_
   intro _
   refine RA.condF rfl ?_
   refine RA.skip env_ok ?_
   intro _
   refine RA.seq hd ?_
   refine RA.region env_ok ?_
   refine OA.callP (dst := (some 24)) (all := []) (v := (.bool true)) (hd.of (by omega) (kb2 (by omega))) rfl rfl rfl rfl rfl rfl rfl rfl awakeM ?_
   intro n14 hn14
   refine OA.p (some 25) (.bool true) rfl rfl rfl rfl ?_
   refine OA.p (some 26) (.slice (some ⟨jcn1, 0, none⟩) (min 20 l1.length) 2) rfl rfl rfl rfl ?_
   refine OA.p (some 27) (.slice (some ⟨jcn2, 0, none⟩) (min 20 l2.length) 2) rfl rfl rfl rfl ?_
   refine OA.call (dst := (some 28)) (all := (xMh41 jcn1 l1 jcn2 l2)) rfl rfl rfl rfl rfl rfl rfl rfl (CQ.imp (mHeld (hd.of (by omega) (kb2 (by omega))) jcn1 jcn2 (min 20 l1.length) (min 20 l2.length) (cutL l1) (cutL l2) cutL_len cutL_len (by omega) (by omega) cutL_ok cutL_ok (get_there (by omega) get_here) get_here) ?_)
   rintro _ n15 _ ⟨rfl, rfl⟩ hn15
   refine OA.app0 ?_
   refine OA.p (some 29) (.int .i64 1) rfl rfl rfl rfl ?_
   refine OA.p (some 30) (.bool (decide ((heldZ (cutL l1) (cutL l2)) = 1))) rfl rfl rfl (r_bin rfl rfl rfl (b_eql rfl)) ?_
   refine OA.p (some 31) (.bool (decide ((heldZ (cutL l1) (cutL l2)) = 1))) rfl rfl rfl rfl ?_
   refine OA.p (some 4) (.bool (decide ((heldZ (cutL l1) (cutL l2)) = 1))) rfl rfl rfl rfl ?_
   refine OA.nil ?_
   intro _
   refine RA.rebase [(0, v1), (1, v2), (4, (.bool (decide ((heldZ (cutL l1) (cutL l2)) = 1)))), (5, (.slice (some ⟨jcn1, 0, none⟩) (min 20 l1.length) 2)), (6, (.slice (some ⟨jcn2, 0, none⟩) (min 20 l2.length) 2)), (7, (.int .i64 1)), (15, (.bool true)), (21, (.bool false))] ⟨rfl, rfl, rfl, rfl, rfl, rfl, rfl, rfl, trivial⟩ (fun τr16 => ?_)
   refine RA.ret env_ok ?_
   refine ⟨.inr rfl, [(.bool (decide ((heldZ (cutL l1) (cutL l2)) = 1)))], (resL_cons rfl resL_nil), [], (Less.of (fun p hp => by simp at hp) (gone_of (by simp only [goneP, memP, List.cons_append, List.nil_append, true_or, or_true, true_and, and_true, or_false] <;> omega))), (congrArg Value.bool (decide_eq_true (held_eq cutL_ok (Bool.eq_false_iff.2 hc1) hc3)))⟩
  ·
   refine OA.callP (dst := (some 20)) (all := (xMh41 jcn1 l1 jcn2 l2)) (v := (.bool false)) (hd.of (by omega) (kb2 (by omega))) rfl rfl rfl rfl rfl rfl rfl rfl (PS.to (mLoo jcn1 jcn2 (min 20 l1.length) (min 20 l2.length) (cutL l1) (cutL l2) cutL_len cutL_len (by omega) (by omega) cutL_ok cutL_ok (get_there (by omega) get_here) get_here) (show (.bool (looseB (cutL l1) (cutL l2))) = ((.bool false) : Value) from (by first | (rw [eq_false_of_ne_true hc3]; done) | (rw [eq_false_of_ne_true hc3]; rfl)))) ?_
   intro n17 hn17
   refine OA.p (some 21) (.bool true) rfl rfl rfl rfl ?_
   refine OA.nil ?_
   intro _
   refine RA.condT rfl ?_
   refine RA.region env_ok ?_
   refine OA.p (some 22) (.int .i64 1) rfl rfl rfl rfl ?_
   refine OA.p (some 23) (.int .i64 3) rfl rfl rfl (r_bin rfl rfl rfl (by kernel_rfl)) ?_
   refine OA.p (some 7) (.int .i64 3) rfl rfl rfl rfl ?_
   refine OA.nil ?_
   intro _
   refine RA.seq hd ?_
   refine RA.region env_ok ?_
   refine OA.callP (dst := (some 24)) (all := []) (v := (.bool true)) (hd.of (by omega) (kb2 (by omega))) rfl rfl rfl rfl rfl rfl rfl rfl awakeM ?_
   intro n18 hn18
   refine OA.p (some 25) (.bool true) rfl rfl rfl rfl ?_
   refine OA.p (some 26) (.slice (some ⟨jcn1, 0, none⟩) (min 20 l1.length) 2) rfl rfl rfl rfl ?_
   refine OA.p (some 27) (.slice (some ⟨jcn2, 0, none⟩) (min 20 l2.length) 2) rfl rfl rfl rfl ?_
   refine OA.call (dst := (some 28)) (all := (xMh41 jcn1 l1 jcn2 l2)) rfl rfl rfl rfl rfl rfl rfl rfl (CQ.imp (mHeld (hd.of (by omega) (kb2 (by omega))) jcn1 jcn2 (min 20 l1.length) (min 20 l2.length) (cutL l1) (cutL l2) cutL_len cutL_len (by omega) (by omega) cutL_ok cutL_ok (get_there (by omega) get_here) get_here) ?_)
   rintro _ n19 _ ⟨rfl, rfl⟩ hn19
   refine OA.app0 ?_
   refine OA.p (some 29) (.int .i64 3) rfl rfl rfl rfl ?_
   refine OA.p (some 30) (.bool (decide ((heldZ (cutL l1) (cutL l2)) = 3))) rfl rfl rfl (r_bin rfl rfl rfl (b_eql rfl)) ?_
   refine OA.p (some 31) (.bool (decide ((heldZ (cutL l1) (cutL l2)) = 3))) rfl rfl rfl rfl ?_
   refine OA.p (some 4) (.bool (decide ((heldZ (cutL l1) (cutL l2)) = 3))) rfl rfl rfl rfl ?_
   refine OA.nil ?_
   intro _
   refine RA.rebase [(0, v1), (1, v2), (4, (.bool (decide ((heldZ (cutL l1) (cutL l2)) = 3)))), (5, (.slice (some ⟨jcn1, 0, none⟩) (min 20 l1.length) 2)), (6, (.slice (some ⟨jcn2, 0, none⟩) (min 20 l2.length) 2)), (7, (.int .i64 3)), (15, (.bool true)), (21, (.bool true))] ⟨rfl, rfl, rfl, rfl, rfl, rfl, rfl, rfl, trivial⟩ (fun τr20 => ?_)
   refine RA.ret env_ok ?_
   refine ⟨.inr rfl, [(.bool (decide ((heldZ (cutL l1) (cutL l2)) = 3)))], (resL_cons rfl resL_nil), [], (Less.of (fun p hp => by simp at hp) (gone_of (by simp only [goneP, memP, List.cons_append, List.nil_append, true_or, or_true, true_and, and_true, or_false] <;> omega))), (congrArg Value.bool (decide_eq_true (held_eq cutL_ok (Bool.eq_false_iff.2 hc1) (Bool.eq_false_iff.2 hc3))))⟩
end Go.Proofs.Ytnjknabighmedaa.Vt
