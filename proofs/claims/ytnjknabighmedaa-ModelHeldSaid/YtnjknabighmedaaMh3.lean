/- Mh3: walks through functions of the program, by the calculus; written by a program of this workplace. -/
import Derived.Test.YtnjknabighmedaaMh2
import Derived.Test.YtnjknabighmedaaVm6
namespace Go.Proofs.Ytnjknabighmedaa.Vt
open Go Go.Proofs Go.Proofs.YtnjknabighmedaaV
set_option maxRecDepth 100000
set_option linter.unusedVariables false
set_option linter.unusedSimpArgs false
def eqb (m x : Msg) : Bool := decide (x = m)
def ordA (la lb : List Msg) : Bool := (List.range 16).all (okB la lb)
def looA (la lb : List Msg) : Bool := (fL lb).all (fun m => decide ((fL lb).count m ≤ (fL la).count m))
def heldZ (la lb : List Msg) : Int := (if ordA la lb = true then 0 else 1) + (if looA la lb = true then 0 else 2)
theorem okB_len {la lb : List Msg} {s : Nat} (h : (fS s la).length < (fS s lb).length) : okB la lb s = false :=
  Bool.eq_false_iff.2 (fun h1 => by have := (okB_iff.1 h1).length_le; omega)
theorem okB_t {la lb : List Msg} {s a b : Nat} (ha : (fS s la).length = a) (hb : (fS s lb).length = b) (h1 : ¬ a < b) (h : (fS s la).take (min a b) = fS s lb) : okB la lb s = true := by
  rw [show min a b = b by omega] at h
  exact okB_iff.2 (by rw [← h]; exact List.take_prefix _ _)
theorem okB_f {la lb : List Msg} {s a b : Nat} (ha : (fS s la).length = a) (hb : (fS s lb).length = b) (h1 : ¬ a < b) (h : ¬ (fS s la).take (min a b) = fS s lb) : okB la lb s = false :=
  Bool.eq_false_iff.2 (fun h2 => h (by
    rw [show min a b = b by omega]
    have h3 := List.prefix_iff_eq_take.1 (okB_iff.1 h2)
    rw [hb] at h3
    exact h3.symm))
theorem ordA_t {la lb : List Msg} {i : Nat} (hi : 16 ≤ i) (h : ∀ t, t < i → okB la lb t = true) : ordA la lb = true :=
  List.all_eq_true.2 (fun t ht => h t (by have := List.mem_range.1 ht; omega))
theorem ordA_f {la lb : List Msg} {i : Nat} (hi : i ≤ 16) (h : ∃ t, t < i ∧ okB la lb t = false) : ordA la lb = false := by
  obtain ⟨t, h1, h2⟩ := h
  refine Bool.eq_false_iff.2 (fun h3 => ?_)
  have := List.all_eq_true.1 h3 t (List.mem_range.2 (by omega))
  rw [h2] at this; cases this
theorem ex_more {la lb : List Msg} {i : Nat} (h : ∃ t, t < i ∧ okB la lb t = false) : ∃ t, t < i + 1 ∧ okB la lb t = false := by
  obtain ⟨t, h1, h2⟩ := h; exact ⟨t, by omega, h2⟩
def cI (la lb left : List Msg) (k : Nat) : Prop := (∀ m, left.count m = (fL la).count m - ((fL lb).take k).count m) ∧ ∀ m ∈ left, okM m
def gI (la lb : List Msg) (k : Nat) : Prop := ∀ m, ((fL lb).take k).count m ≤ (fL la).count m
def bI (la lb : List Msg) (k : Nat) : Prop := ∃ m, (fL la).count m < ((fL lb).take k).count m
theorem cI_0 {la lb : List Msg} (h : ∀ m ∈ la, okM m) : cI la lb (fL la) 0 := ⟨fun m => by simp, fun m hm => h m ((List.mem_filter.1 hm).1)⟩
theorem gI_0 {la lb : List Msg} : gI la lb 0 := fun m => by simp
theorem er_len {l : List Msg} {i k : Nat} (h : i < l.length) (hk : l.length = k) : (l.eraseIdx i).length = k - 1 := by rw [List.length_eraseIdx_of_lt h, hk]
theorem er_cnt {l : List Msg} {i : Nat} (h : i < l.length) (m : Msg) : (l.eraseIdx i).count m = l.count m - (if l.getD i dMsg = m then 1 else 0) := by
  have e : l = l.take i ++ l.getD i dMsg :: l.drop (i + 1) := by
    rw [List.getD_eq_getElem?_getD, List.getElem?_eq_getElem h]
    exact (List.take_append_drop i l).symm.trans (by rw [List.drop_eq_getElem_cons h]; rfl)
  rw [List.eraseIdx_eq_take_drop_succ]
  conv => rhs; rw [e]
  rw [List.count_append, List.count_append, List.count_cons]
  simp only [beq_iff_eq]
  split
  · rename_i h1; rw [← e, if_pos h1]; omega
  · rename_i h1; rw [← e, if_neg h1]; omega
theorem fd_eq {l : List Msg} {m : Msg} (h : l.findIdx (eqb m) < l.length) : l.getD (l.findIdx (eqb m)) dMsg = m := by
  have h3 := List.findIdx_getElem (p := eqb m) (xs := l) (w := h)
  rw [List.getD_eq_getElem?_getD, List.getElem?_eq_getElem h]
  exact of_decide_eq_true h3
theorem fd_pos {l : List Msg} {m : Msg} (h : l.findIdx (eqb m) < l.length) : 0 < l.count m := List.count_pos_iff.2 (by have := getD_mem (d := dMsg) h; rw [fd_eq h] at this; exact this)
theorem fd_zero {l : List Msg} {m : Msg} (h : ¬ l.findIdx (eqb m) < l.length) : l.count m = 0 := by
  refine List.count_eq_zero.2 (fun hm => h ?_)
  exact List.findIdx_lt_length_of_exists ⟨m, hm, decide_eq_true rfl⟩
theorem cI_del {la lb left : List Msg} {k : Nat} (hk : k < (fL lb).length) (h : left.findIdx (eqb ((fL lb).getD k dMsg)) < left.length) (hc : cI la lb left k) : cI la lb (left.eraseIdx (left.findIdx (eqb ((fL lb).getD k dMsg)))) (k + 1) := by
  refine ⟨fun m => ?_, fun m hm => hc.2 m (List.mem_of_mem_eraseIdx hm)⟩
  rw [er_cnt h, fd_eq h, cnt_succ hk, hc.1 m]
  omega
theorem gI_del {la lb left : List Msg} {k : Nat} (hk : k < (fL lb).length) (h : left.findIdx (eqb ((fL lb).getD k dMsg)) < left.length) (hc : cI la lb left k) (hg : gI la lb k) : gI la lb (k + 1) := by
  intro m
  have h1 := hg m
  rw [cnt_succ hk]
  split
  · rename_i e
    have h2 := fd_pos h
    rw [e, hc.1 m] at h2
    omega
  · omega
theorem bI_more {la lb : List Msg} {k : Nat} (hk : k < (fL lb).length) (hb : bI la lb k) : bI la lb (k + 1) := by
  obtain ⟨m, h⟩ := hb
  refine ⟨m, ?_⟩
  rw [cnt_succ hk]; omega
theorem cI_miss {la lb left : List Msg} {k : Nat} (hk : k < (fL lb).length) (h : ¬ left.findIdx (eqb ((fL lb).getD k dMsg)) < left.length) (hc : cI la lb left k) : cI la lb left (k + 1) := by
  refine ⟨fun m => ?_, hc.2⟩
  rw [cnt_succ hk, hc.1 m]
  split
  · rename_i e
    have h2 := fd_zero h
    rw [e, hc.1 m] at h2
    omega
  · rfl
theorem bI_miss {la lb left : List Msg} {k : Nat} (hk : k < (fL lb).length) (h : ¬ left.findIdx (eqb ((fL lb).getD k dMsg)) < left.length) (hc : cI la lb left k) : bI la lb (k + 1) := by
  refine ⟨(fL lb).getD k dMsg, ?_⟩
  have h2 := fd_zero h
  rw [hc.1] at h2
  rw [cnt_succ hk, if_pos rfl]; omega
theorem looA_t {la lb : List Msg} {k : Nat} (hk : (fL lb).length ≤ k) (h : gI la lb k) : looA la lb = true :=
  List.all_eq_true.2 (fun m _ => decide_eq_true (by have := h m; rw [List.take_of_length_le hk] at this; exact this))
theorem looA_f {la lb : List Msg} {k : Nat} (hk : (fL lb).length ≤ k) (h : bI la lb k) : looA la lb = false := by
  obtain ⟨m, h⟩ := h
  rw [List.take_of_length_le hk] at h
  refine Bool.eq_false_iff.2 (fun h3 => ?_)
  have := of_decide_eq_true (List.all_eq_true.1 h3 m (List.count_pos_iff.1 (by omega)))
  omega
theorem fl_ok {p : Msg → Bool} {l : List Msg} (h : ∀ m ∈ l, okM m) : ∀ m ∈ l.filter p, okM m := fun m hm => h m ((List.mem_filter.1 hm).1)
abbrev xMh31 (jon25 : Nat) (K : Nat) (n27 : Nat) : List Value := [(.slice (some ⟨jon25, 0, none⟩) K 2), (.func (.func 79) ⟨[]⟩ ⟨[(.pointer (some ⟨n27, 0, some 0⟩))]⟩)]
abbrev xMh32 (jon9 : Nat) (K : Nat) (n11 : Nat) : List Value := [(.slice (some ⟨jon9, 0, none⟩) K 2), (.func (.func 79) ⟨[]⟩ ⟨[(.pointer (some ⟨n11, 0, some 0⟩))]⟩)]
set_option maxHeartbeats 4000000 in
theorem mHeld {n : Nat} {σ : Store} (hd : Dom n σ) (ja jb A B : Nat) (la lb : List Msg) (hla : la.length = A) (hlb : lb.length = B) (hA : A ≤ 1000) (hB : B ≤ 1000) (hka : ∀ m ∈ la, okM m) (hkb : ∀ m ∈ lb, okM m) (hja : σ ja = some (oMsg la)) (hjb : σ jb = some (oMsg lb))  : CQ Try.prog noDen 37 [(.slice (some ⟨ja, 0, none⟩) A 2), (.slice (some ⟨jb, 0, none⟩) B 2)] n σ (fun v n' d => v = .int .i64 (heldZ la lb) ∧ d = []) := by
 have lhja := hd.lt hja
 have lhjb := hd.lt hjb
 refine CQ.body (E := env) env_ok hd rfl rfl (by show _ ≤ _; exact of_decide_eq_true (by kernel_rfl)) ?_
 refine RA.seq hd ?_
 refine RA.region env_ok ?_
 refine OA.p (some 4) (.int .i64 0) rfl rfl rfl rfl ?_
 refine OA.nil ?_
 intro _
 refine RA.seq hd ?_
 refine RA.region env_ok ?_
 refine OA.p (some 5) (.int .i64 0) rfl rfl rfl rfl ?_
 refine OA.nil ?_
 intro _
 refine RA.seq hd ?_
 refine RA.seq hd ?_
 refine RA.region env_ok ?_
 refine OA.p (some 13) (.int .i64 0) rfl rfl rfl rfl ?_
 refine OA.nil ?_
 intro _
 refine RA.block ?_
 refine RA.loop hd (fun kk_ τ n' D => (∃ i : Nat, kk_ = 16 - i ∧ n ≤ n' ∧ Has τ [(0, (.slice (some ⟨ja, 0, none⟩) A 2)), (1, (.slice (some ⟨jb, 0, none⟩) B 2)), (5, (.int .i64 0)), (13, (.int .i64 ((i : Nat) : Int)))] ∧ D = [] ∧ (∀ i ∈ keys D, i < n') ∧ i ≤ 16 ∧ ∀ t, t < i → okB la lb t = true) ∨ (∃ i : Nat, kk_ = 16 - i ∧ n ≤ n' ∧ Has τ [(0, (.slice (some ⟨ja, 0, none⟩) A 2)), (1, (.slice (some ⟨jb, 0, none⟩) B 2)), (5, (.int .i64 1)), (13, (.int .i64 ((i : Nat) : Int)))] ∧ D = [] ∧ (∀ i ∈ keys D, i < n') ∧ i ≤ 16 ∧ ∃ t, t < i ∧ okB la lb t = false)) (16 - 0) (.inl (⟨0, rfl, by omega, ⟨rfl, rfl, rfl, rfl, trivial⟩, rfl, (fun i hi => by cases hi), ⟨by omega, fun t ht => absurd ht (by omega)⟩⟩)) ?_
 rintro kn1 τ1 n1 Dn1 hSn1
 rcases hSn1 with ⟨i, rfl, hn1, hHn1, rfl, hKn1, hIn1⟩ | ⟨i, rfl, hn1, hHn1, rfl, hKn1, hIn1⟩
 ·
  rw [Has.eq hHn1]
  obtain ⟨hi1, hi2⟩ := hIn1
  refine RA.seq hd ?_
  refine RA.region env_ok ?_
  by_cases hc1 : ((i : Nat) : Int) < 16
  ·
   refine OA.p (some 14) (.bool true) rfl rfl rfl (Eq.trans (r_bin rfl rfl rfl (b_lss rfl)) (dT hc1)) ?_
   refine OA.nil ?_
   intro _
   refine RA.seq hd ?_
   refine RA.condT rfl ?_
   refine RA.skip env_ok ?_
   intro _
   refine RA.seq hd ?_
   refine RA.block ?_
   refine RA.seq hd ?_
   refine RA.region env_ok ?_
   refine OA.p (some 15) (.int .i64 ((i : Nat) : Int)) rfl rfl rfl rfl ?_
   refine OA.p (some 6) (.int .i64 ((i : Nat) : Int)) rfl rfl rfl rfl ?_
   refine OA.nil ?_
   intro _
   refine RA.seq hd ?_
   refine RA.region env_ok ?_
   refine OA.p (some 16) (.slice (some ⟨ja, 0, none⟩) A 2) rfl rfl rfl rfl ?_
   refine OA.p (some 17) (.int .i64 ((i : Nat) : Int)) rfl rfl rfl rfl ?_
   refine OA.call (dst := (some 18)) (all := [(.slice (some ⟨ja, 0, none⟩) A 2), (.int .i64 ((i : Nat) : Int)), (.bool false)]) rfl rfl rfl rfl rfl rfl rfl rfl (CQ.imp (mOf (hd.up (by omega)) ja A la hla (by omega) false ((i : Nat) : Int) hja) ?_)
   rintro _ n2 _ ⟨jon2, o1n2, o2n2, Mon2, hon2, hmn2, rfl, rfl⟩ hn2
   refine OA.app1 ?_
   refine OA.p (some 19) (.slice (some ⟨jb, 0, none⟩) B 2) rfl rfl rfl rfl ?_
   refine OA.p (some 20) (.int .i64 ((i : Nat) : Int)) rfl rfl rfl rfl ?_
   refine OA.call (dst := (some 21)) (all := [(.slice (some ⟨jb, 0, none⟩) B 2), (.int .i64 ((i : Nat) : Int)), (.bool false)]) rfl rfl rfl rfl rfl rfl rfl rfl (CQ.imp (mOf (hd.of (by omega) (kb1 (by omega))) jb B lb hlb (by omega) false ((i : Nat) : Int) (get_there (by omega) hjb)) ?_)
   rintro _ n3 _ ⟨jon3, o1n3, o2n3, Mon3, hon3, hmn3, rfl, rfl⟩ hn3
   refine OA.app1 ?_
   refine OA.p (some 7) (.slice (some ⟨jon2, 0, none⟩) Mon2 2) rfl rfl rfl rfl ?_
   refine OA.p (some 8) (.slice (some ⟨jon3, 0, none⟩) Mon3 2) rfl rfl rfl rfl ?_
   refine OA.nil ?_
   intro _
   refine RA.seq hd ?_
   refine RA.region env_ok ?_
   refine OA.p (some 22) (.slice (some ⟨jon3, 0, none⟩) Mon3 2) rfl rfl rfl rfl ?_
   refine OA.p (some 23) (.int .i64 ((Mon3 : Nat) : Int)) rfl rfl rfl rfl ?_
   refine OA.p (some 24) (.slice (some ⟨jon2, 0, none⟩) Mon2 2) rfl rfl rfl rfl ?_
   refine OA.p (some 25) (.int .i64 ((Mon2 : Nat) : Int)) rfl rfl rfl rfl ?_
   by_cases hc2 : ((Mon2 : Nat) : Int) < ((Mon3 : Nat) : Int)
   ·
    refine OA.p (some 26) (.bool true) rfl rfl rfl (Eq.trans (r_bin rfl rfl rfl (b_gtr rfl)) (dT hc2)) ?_
    refine OA.p (some 27) (.bool true) rfl rfl rfl rfl ?_
    refine OA.off (dst := (some 28)) rfl rfl rfl ?_
    refine OA.off (dst := (some 29)) rfl rfl rfl ?_
    refine OA.off (dst := (some 30)) rfl rfl rfl ?_
    refine OA.off (dst := (some 31)) rfl rfl rfl ?_
    refine OA.off (dst := (some 32)) rfl rfl rfl ?_
    refine OA.off (dst := (some 33)) rfl rfl rfl ?_
    refine OA.off (dst := (some 34)) rfl rfl rfl ?_
    refine OA.off (dst := (some 35)) rfl rfl rfl ?_
    refine OA.off (dst := (some 36)) rfl rfl rfl ?_
    refine OA.off (dst := (some 37)) rfl rfl rfl ?_
    refine OA.p (some 38) (.bool true) rfl rfl rfl rfl ?_
    refine OA.nil ?_
    intro _
    refine RA.rebase [(0, (.slice (some ⟨ja, 0, none⟩) A 2)), (1, (.slice (some ⟨jb, 0, none⟩) B 2)), (5, (.int .i64 0)), (6, (.int .i64 ((i : Nat) : Int))), (7, (.slice (some ⟨jon2, 0, none⟩) Mon2 2)), (8, (.slice (some ⟨jon3, 0, none⟩) Mon3 2)), (13, (.int .i64 ((i : Nat) : Int))), (14, (.bool true)), (38, (.bool true))] ⟨rfl, rfl, rfl, rfl, rfl, rfl, rfl, rfl, rfl, trivial⟩ (fun τr4 => ?_)
    refine RA.condT rfl ?_
    refine RA.region env_ok ?_
    refine OA.p (some 39) (.int .i64 0) rfl rfl rfl rfl ?_
    refine OA.p (some 40) (.int .i64 1) rfl rfl rfl (r_bin rfl rfl rfl (by kernel_rfl)) ?_
    refine OA.p (some 5) (.int .i64 1) rfl rfl rfl rfl ?_
    refine OA.nil ?_
    intro _
    refine RA.region env_ok ?_
    refine OA.p (some 41) (.int .i64 (((i + 1) : Nat) : Int)) rfl rfl rfl (r_bin rfl rfl rfl (b_add (i64_eq (by omega)))) ?_
    refine OA.p (some 13) (.int .i64 (((i + 1) : Nat) : Int)) rfl rfl rfl rfl ?_
    refine OA.nil ?_
    refine ⟨16 - (i + 1), by omega, [], (Less.of (fun p hp => by simp at hp) (gone_of (by simp only [goneP, memP, List.cons_append, List.nil_append, true_or, or_true, true_and, and_true, or_false] <;> omega))), .inr (⟨(i + 1), rfl, by omega, ⟨rfl, rfl, rfl, rfl, trivial⟩, rfl, (fun i hi => by cases hi), ⟨by omega, i, by omega, okB_len (by rw [hon2, hon3]; omega)⟩⟩)⟩
   ·
    refine OA.p (some 26) (.bool false) rfl rfl rfl (Eq.trans (r_bin rfl rfl rfl (b_gtr rfl)) (dF hc2)) ?_
    refine OA.p (some 27) (.bool false) rfl rfl rfl rfl ?_
    refine OA.p (some 28) (.slice (some ⟨jon2, 0, none⟩) Mon2 2) rfl rfl rfl rfl ?_
    refine OA.p (some 29) (.slice (some ⟨jon2, 0, none⟩) Mon2 2) rfl rfl rfl rfl ?_
    refine OA.p (some 30) (.int .i64 ((Mon2 : Nat) : Int)) rfl rfl rfl rfl ?_
    refine OA.p (some 31) (.slice (some ⟨jon3, 0, none⟩) Mon3 2) rfl rfl rfl rfl ?_
    refine OA.p (some 32) (.int .i64 ((Mon3 : Nat) : Int)) rfl rfl rfl rfl ?_
    refine OA.p (some 33) (.int .i64 (((min Mon2 Mon3) : Nat) : Int)) rfl rfl rfl (r_min (a := Mon2) (b := Mon3) rfl rfl rfl) ?_
    refine OA.p (some 34) (.slice (some ⟨jon2, 0, none⟩) (min Mon2 Mon3) 2) rfl rfl rfl (r_cut2 (a := 0) (b := (min Mon2 Mon3)) rfl rfl (fun _ => rfl) (fun _ => rfl) rfl rfl rfl rfl (bound_int (by omega)) (get_there (by omega) get_here) rfl (by omega) (by omega) (by rw [List.length_map, hon2]; omega) (by omega) (by omega)) ?_
    refine OA.p (some 35) (.slice (some ⟨jon3, 0, none⟩) Mon3 2) rfl rfl rfl rfl ?_
    by_cases hc3 : (la.filter (ofP false ((i : Nat) : Int))).take (min Mon2 Mon3) = (lb.filter (ofP false ((i : Nat) : Int)))
    ·
     refine OA.callP (dst := (some 36)) (all := [(.slice (some ⟨jon2, 0, none⟩) (min Mon2 Mon3) 2), (.slice (some ⟨jon3, 0, none⟩) Mon3 2), (.func (.func 77) ⟨[]⟩ ⟨[]⟩)]) (v := (.bool true)) (hd.of (by omega) (kb2 (by omega))) rfl rfl rfl rfl rfl rfl rfl rfl (PS.to (mEq jon2 jon3 Mon2 (min Mon2 Mon3) Mon3 (la.filter (ofP false ((i : Nat) : Int))) (lb.filter (ofP false ((i : Nat) : Int))) hon2 hon3 (by omega) (by omega) (by omega) (fl_ok hka) (fl_ok hkb) (get_there (by omega) get_here) get_here) (show (.bool (decide ((la.filter (ofP false ((i : Nat) : Int))).take (min Mon2 Mon3) = (lb.filter (ofP false ((i : Nat) : Int)))))) = ((.bool true) : Value) from (by first | (rw [decide_eq_true hc3]; done) | (rw [decide_eq_true hc3]; rfl)))) ?_
     intro n5 hn5
     refine OA.p (some 37) (.bool false) rfl rfl rfl rfl ?_
     refine OA.p (some 38) (.bool false) rfl rfl rfl rfl ?_
     refine OA.nil ?_
     intro _
     refine RA.rebase [(0, (.slice (some ⟨ja, 0, none⟩) A 2)), (1, (.slice (some ⟨jb, 0, none⟩) B 2)), (5, (.int .i64 0)), (6, (.int .i64 ((i : Nat) : Int))), (7, (.slice (some ⟨jon2, 0, none⟩) Mon2 2)), (8, (.slice (some ⟨jon3, 0, none⟩) Mon3 2)), (13, (.int .i64 ((i : Nat) : Int))), (14, (.bool true)), (38, (.bool false))] ⟨rfl, rfl, rfl, rfl, rfl, rfl, rfl, rfl, rfl, trivial⟩ (fun τr6 => ?_)
     refine RA.condF rfl ?_
     refine RA.skip env_ok ?_
     intro _
     refine RA.region env_ok ?_
     refine OA.p (some 41) (.int .i64 (((i + 1) : Nat) : Int)) rfl rfl rfl (r_bin rfl rfl rfl (b_add (i64_eq (by omega)))) ?_
     refine OA.p (some 13) (.int .i64 (((i + 1) : Nat) : Int)) rfl rfl rfl rfl ?_
     refine OA.nil ?_
     refine ⟨16 - (i + 1), by omega, [], (Less.of (fun p hp => by simp at hp) (gone_of (by simp only [goneP, memP, List.cons_append, List.nil_append, true_or, or_true, true_and, and_true, or_false] <;> omega))), .inl (⟨(i + 1), rfl, by omega, ⟨rfl, rfl, rfl, rfl, trivial⟩, rfl, (fun i hi => by cases hi), ⟨by omega, ord_all hi2 (okB_t hon2 hon3 (by omega) hc3)⟩⟩)⟩
    ·
     refine OA.callP (dst := (some 36)) (all := [(.slice (some ⟨jon2, 0, none⟩) (min Mon2 Mon3) 2), (.slice (some ⟨jon3, 0, none⟩) Mon3 2), (.func (.func 77) ⟨[]⟩ ⟨[]⟩)]) (v := (.bool false)) (hd.of (by omega) (kb2 (by omega))) rfl rfl rfl rfl rfl rfl rfl rfl (PS.to (mEq jon2 jon3 Mon2 (min Mon2 Mon3) Mon3 (la.filter (ofP false ((i : Nat) : Int))) (lb.filter (ofP false ((i : Nat) : Int))) hon2 hon3 (by omega) (by omega) (by omega) (fl_ok hka) (fl_ok hkb) (get_there (by omega) get_here) get_here) (show (.bool (decide ((la.filter (ofP false ((i : Nat) : Int))).take (min Mon2 Mon3) = (lb.filter (ofP false ((i : Nat) : Int)))))) = ((.bool false) : Value) from (by first | (rw [decide_eq_false hc3]; done) | (rw [decide_eq_false hc3]; rfl)))) ?_
     intro n7 hn7
     refine OA.p (some 37) (.bool true) rfl rfl rfl rfl ?_
     refine OA.p (some 38) (.bool true) rfl rfl rfl rfl ?_
     refine OA.nil ?_
     intro _
     refine RA.rebase [(0, (.slice (some ⟨ja, 0, none⟩) A 2)), (1, (.slice (some ⟨jb, 0, none⟩) B 2)), (5, (.int .i64 0)), (6, (.int .i64 ((i : Nat) : Int))), (7, (.slice (some ⟨jon2, 0, none⟩) Mon2 2)), (8, (.slice (some ⟨jon3, 0, none⟩) Mon3 2)), (13, (.int .i64 ((i : Nat) : Int))), (14, (.bool true)), (38, (.bool true))] ⟨rfl, rfl, rfl, rfl, rfl, rfl, rfl, rfl, rfl, trivial⟩ (fun τr8 => ?_)
     refine RA.condT rfl ?_
     refine RA.region env_ok ?_
     refine OA.p (some 39) (.int .i64 0) rfl rfl rfl rfl ?_
     refine OA.p (some 40) (.int .i64 1) rfl rfl rfl (r_bin rfl rfl rfl (by kernel_rfl)) ?_
     refine OA.p (some 5) (.int .i64 1) rfl rfl rfl rfl ?_
     refine OA.nil ?_
     intro _
     refine RA.region env_ok ?_
     refine OA.p (some 41) (.int .i64 (((i + 1) : Nat) : Int)) rfl rfl rfl (r_bin rfl rfl rfl (b_add (i64_eq (by omega)))) ?_
     refine OA.p (some 13) (.int .i64 (((i + 1) : Nat) : Int)) rfl rfl rfl rfl ?_
     refine OA.nil ?_
     refine ⟨16 - (i + 1), by omega, [], (Less.of (fun p hp => by simp at hp) (gone_of (by simp only [goneP, memP, List.cons_append, List.nil_append, true_or, or_true, true_and, and_true, or_false] <;> omega))), .inr (⟨(i + 1), rfl, by omega, ⟨rfl, rfl, rfl, rfl, trivial⟩, rfl, (fun i hi => by cases hi), ⟨by omega, i, by omega, okB_f hon2 hon3 (by omega) hc3⟩⟩)⟩
  ·
   refine OA.p (some 14) (.bool false) rfl rfl rfl (Eq.trans (r_bin rfl rfl rfl (b_lss rfl)) (dF hc1)) ?_
   refine OA.nil ?_
   intro _
   refine RA.seq hd ?_
   refine RA.condF rfl ?_
   refine RA.exit env_ok ?_
   intro _
   refine RA.seq hd ?_
   refine RA.region env_ok ?_
   refine OA.p (some 42) (.slice (some ⟨ja, 0, none⟩) A 2) rfl rfl rfl rfl ?_
   refine OA.call (dst := (some 43)) (all := [(.slice (some ⟨ja, 0, none⟩) A 2), (.int .i64 0), (.bool true)]) rfl rfl rfl rfl rfl rfl rfl rfl (CQ.imp (mOf (hd.up (by omega)) ja A la hla (by omega) true 0 hja) ?_)
   rintro _ n9 _ ⟨jon9, o1n9, o2n9, Mon9, hon9, hmn9, rfl, rfl⟩ hn9
   refine OA.app1 ?_
   refine OA.p (some 9) (.slice (some ⟨jon9, 0, none⟩) Mon9 2) rfl rfl rfl rfl ?_
   refine OA.nil ?_
   intro _
   refine RA.seq hd ?_
   refine RA.seq hd ?_
   refine RA.region env_ok ?_
   refine OA.p (some 44) (.slice (some ⟨jb, 0, none⟩) B 2) rfl rfl rfl rfl ?_
   refine OA.call (dst := (some 45)) (all := [(.slice (some ⟨jb, 0, none⟩) B 2), (.int .i64 0), (.bool true)]) rfl rfl rfl rfl rfl rfl rfl rfl (CQ.imp (mOf (hd.of (by omega) (kb1 (by omega))) jb B lb hlb (by omega) true 0 (get_there (by omega) hjb)) ?_)
   rintro _ n10 _ ⟨jon10, o1n10, o2n10, Mon10, hon10, hmn10, rfl, rfl⟩ hn10
   refine OA.app1 ?_
   refine OA.p (some 46) (.int .i64 ((Mon10 : Nat) : Int)) rfl rfl rfl rfl ?_
   refine OA.p (some 47) (.int .i64 0) rfl rfl rfl rfl ?_
   refine OA.nil ?_
   intro _
   refine RA.block ?_
   have hRl := hon10
   refine RA.weaken (D' := [(jon9, some (oMsg (la.filter (ofP true 0)))), (jon10, some (oMsg (lb.filter (ofP true 0))))]) hd (Less.of (fac (mm (fun _ => get_here) (fun _ => (get_there (by omega) get_here))) (fac (mm (fun _ => (get_there (by omega) get_here)) (fun _ => get_here)) fan)) (gone_of (by simp only [goneP, memP, List.cons_append, List.nil_append, true_or, or_true, true_and, and_true, or_false] <;> omega))) ?_
   refine RA.loop hd (fun kk_ τ n' D => (∃ k : Nat, ∃ K : Nat, ∃ left : List Msg, kk_ = Mon10 - k ∧ n10 ≤ n' ∧ Has τ [(5, (.int .i64 0)), (9, (.slice (some ⟨jon9, 0, none⟩) K 2)), (45, (.slice (some ⟨jon10, 0, none⟩) Mon10 2)), (46, (.int .i64 ((Mon10 : Nat) : Int))), (47, (.int .i64 ((k : Nat) : Int)))] ∧ D = [(jon9, some (oMsg left)), (jon10, some (oMsg (lb.filter (ofP true 0))))] ∧ (∀ i ∈ keys D, i < n') ∧ k ≤ Mon10 ∧ left.length = K ∧ K ≤ 1000 ∧ cI la lb left k ∧ gI la lb k) ∨ (∃ k : Nat, ∃ K : Nat, ∃ left : List Msg, kk_ = Mon10 - k ∧ n10 ≤ n' ∧ Has τ [(5, (.int .i64 2)), (9, (.slice (some ⟨jon9, 0, none⟩) K 2)), (45, (.slice (some ⟨jon10, 0, none⟩) Mon10 2)), (46, (.int .i64 ((Mon10 : Nat) : Int))), (47, (.int .i64 ((k : Nat) : Int)))] ∧ D = [(jon9, some (oMsg left)), (jon10, some (oMsg (lb.filter (ofP true 0))))] ∧ (∀ i ∈ keys D, i < n') ∧ k ≤ Mon10 ∧ left.length = K ∧ K ≤ 1000 ∧ cI la lb left k ∧ bI la lb k)) (Mon10 - 0) (.inl (⟨0, Mon9, (la.filter (ofP true 0)), rfl, by omega, ⟨rfl, rfl, rfl, rfl, rfl, trivial⟩, rfl, (kb2 (by omega)), ⟨by omega, hon9, by omega, cI_0 hka, gI_0⟩⟩)) ?_
   rintro kn11 τ11 n11 Dn11 hSn11
   rcases hSn11 with ⟨k, K, left, rfl, hn11, hHn11, rfl, hKn11, hIn11⟩ | ⟨k, K, left, rfl, hn11, hHn11, rfl, hKn11, hIn11⟩
   ·
    rw [Has.eq hHn11]
    have hKn11_0 : jon9 < n11 := hKn11 _ (by simp only [keys, List.map_cons, List.map_nil, List.mem_cons, true_or, or_true])
    have hKn11_1 : jon10 < n11 := hKn11 _ (by simp only [keys, List.map_cons, List.map_nil, List.mem_cons, true_or, or_true])
    clear hKn11
    obtain ⟨hk1, hlf, hk2, hci, hgi⟩ := hIn11
    refine RA.seq hd ?_
    refine RA.region env_ok ?_
    by_cases hc4 : ((k : Nat) : Int) < ((Mon10 : Nat) : Int)
    ·
     refine OA.p (some 48) (.bool true) rfl rfl rfl (Eq.trans (r_bin rfl rfl rfl (b_lss rfl)) (dT hc4)) ?_
     refine OA.nil ?_
     intro _
     refine RA.seq hd ?_
     refine RA.condT rfl ?_
     refine RA.skip env_ok ?_
     intro _
     refine RA.seq hd ?_
     refine RA.block ?_
     refine RA.seq hd ?_
     refine RA.region env_ok ?_
     refine OA.p (some 49) (Pt jon10 k 0) rfl rfl rfl (r_iaS (l := k) rfl rfl rfl rfl rfl rfl (by omega) (by omega) (get_there (by omega) get_here) rfl (by omega)) ?_
     refine OA.p (some 50) (.agg ⟨(cMsg ((lb.filter (ofP true 0)).getD k dMsg))⟩) rfl rfl rfl (r_loadR (c := cMsg) dMsg rfl rfl rfl rfl (get_there (by omega) get_here) (by rw [hon10]; omega) rfl) ?_
     refine OA.op1 (dst := (some 11)) (v := (Pt n11 0 0)) (n1 := (n11 + 1)) (w := (n11, some ⟨[[(.int .i64 0), (.int .i64 0), (.bool false), (.int .u32 0), (.string ByteArray.empty)]], 5, 117, true⟩)) rfl rfl rfl rfl (by omega) ?_
     refine OA.op1 (dst := none) (v := (.tuple #[])) (n1 := (n11 + 1)) (w := (n11, some ⟨[(cMsg ((lb.filter (ofP true 0)).getD k dMsg))], 5, 117, true⟩)) rfl rfl rfl (r_store rfl rfl rfl rfl rfl rfl rfl get_here rfl rfl (Nat.le_of_ble_eq_true rfl) rfl) (by omega) ?_
     refine OA.nil ?_
     intro _
     refine RA.seq hd ?_
     refine RA.region env_ok ?_
     refine OA.p (some 51) (.slice (some ⟨jon9, 0, none⟩) K 2) rfl rfl rfl rfl ?_
     refine OA.p (some 52) (.func (.func 79) ⟨[]⟩ ⟨[(Pt n11 0 0)]⟩) rfl rfl rfl rfl ?_
     by_cases hc5 : (left.findIdx (eqb ((lb.filter (ofP true 0)).getD k dMsg))) < left.length
     ·
      refine OA.callP (dst := (some 53)) (all := (xMh32 jon9 K n11)) (v := (.int .i64 (((left.findIdx (eqb ((lb.filter (ofP true 0)).getD k dMsg))) : Nat) : Int))) (hd.of (by omega) (kb4 (by omega))) rfl rfl rfl rfl rfl rfl rfl rfl (PS.to (mIdx jon9 K left (by rw [hlf]) (by omega) (eqb ((lb.filter (ofP true 0)).getD k dMsg)) n11 (gt2 (by omega) get_here) (fun x hx => mHC x ((lb.filter (ofP true 0)).getD k dMsg) n11 (hci.2 x hx) (fl_ok hkb _ (getD_mem (by omega))) get_here)) (congrArg (Value.int .i64) (if_pos hc5))) ?_
      intro n12 hn12
      refine OA.p (some 12) (.int .i64 (((left.findIdx (eqb ((lb.filter (ofP true 0)).getD k dMsg))) : Nat) : Int)) rfl rfl rfl rfl ?_
      refine OA.nil ?_
      intro _
      refine RA.seq hd ?_
      refine RA.seq hd ?_
      refine RA.region env_ok ?_
      refine OA.p (some 54) (.int .i64 (((left.findIdx (eqb ((lb.filter (ofP true 0)).getD k dMsg))) : Nat) : Int)) rfl rfl rfl rfl ?_
      have hc6 : ¬ ((((left.findIdx (eqb ((lb.filter (ofP true 0)).getD k dMsg))) : Nat) : Int) < 0) := fun hdd => by exfalso; omega
      refine OA.p (some 55) (.bool false) rfl rfl rfl (Eq.trans (r_bin rfl rfl rfl (b_lss rfl)) (dF hc6)) ?_
      refine OA.nil ?_
      intro _
      refine RA.condF rfl ?_
      refine RA.skip env_ok ?_
      intro _
      refine RA.region env_ok ?_
      refine OA.p (some 58) (.slice (some ⟨jon9, 0, none⟩) K 2) rfl rfl rfl rfl ?_
      refine OA.p (some 59) (.int .i64 (((left.findIdx (eqb ((lb.filter (ofP true 0)).getD k dMsg))) : Nat) : Int)) rfl rfl rfl rfl ?_
      refine OA.p (some 60) (.int .i64 (((left.findIdx (eqb ((lb.filter (ofP true 0)).getD k dMsg))) : Nat) : Int)) rfl rfl rfl rfl ?_
      refine OA.p (some 61) (.int .i64 ((((left.findIdx (eqb ((lb.filter (ofP true 0)).getD k dMsg))) + 1) : Nat) : Int)) rfl rfl rfl (r_bin rfl rfl rfl (b_add (i64_eq (by omega)))) ?_
      refine OA.call (dst := (some 62)) (all := [(.slice (some ⟨jon9, 0, none⟩) K 2), (.int .i64 (((left.findIdx (eqb ((lb.filter (ofP true 0)).getD k dMsg))) : Nat) : Int)), (.int .i64 ((((left.findIdx (eqb ((lb.filter (ofP true 0)).getD k dMsg))) + 1) : Nat) : Int))]) rfl rfl rfl rfl rfl rfl rfl rfl (CQ.imp (mDel (hd.of (by omega) (kb4 (by omega))) jon9 K (left.findIdx (eqb ((lb.filter (ofP true 0)).getD k dMsg))) left (by rw [hlf]) (by omega) (by omega) (gt2 (by omega) get_here)) ?_)
      rintro _ n13 _ ⟨rfl, rfl⟩ hn13
      refine OA.app1 ?_
      refine OA.p (some 9) (.slice (some ⟨jon9, 0, none⟩) (K - 1) 2) rfl rfl rfl rfl ?_
      refine OA.nil ?_
      intro _
      refine RA.region env_ok ?_
      refine OA.p (some 63) (.int .i64 (((k + 1) : Nat) : Int)) rfl rfl rfl (r_bin rfl rfl rfl (b_add (i64_eq (by omega)))) ?_
      refine OA.p (some 47) (.int .i64 (((k + 1) : Nat) : Int)) rfl rfl rfl rfl ?_
      refine OA.nil ?_
      refine ⟨Mon10 - (k + 1), by omega, [(jon9, some (oMsg (left.eraseIdx (left.findIdx (eqb ((lb.filter (ofP true 0)).getD k dMsg)))))), (jon10, some (oMsg (lb.filter (ofP true 0))))], (Less.of (fac (mm (fun _ => get_here) (fun _ => get_here)) (fac (mm (fun _ => (get_there (by omega) get_here)) (fun _ => (gt4 (by omega) get_here))) fan)) (gone_of (by simp only [goneP, memP, List.cons_append, List.nil_append, true_or, or_true, true_and, and_true, or_false] <;> omega))), .inl (⟨(k + 1), (K - 1), (left.eraseIdx (left.findIdx (eqb ((lb.filter (ofP true 0)).getD k dMsg)))), rfl, by omega, ⟨rfl, rfl, rfl, rfl, rfl, trivial⟩, rfl, (kb2 (by omega)), ⟨by omega, er_len hc5 hlf, by omega, cI_del (by rw [hRl]; omega) hc5 hci, gI_del (by rw [hRl]; omega) hc5 hci hgi⟩⟩)⟩
     ·
      refine OA.callP (dst := (some 53)) (all := (xMh32 jon9 K n11)) (v := (.int .i64 (-1))) (hd.of (by omega) (kb4 (by omega))) rfl rfl rfl rfl rfl rfl rfl rfl (PS.to (mIdx jon9 K left (by rw [hlf]) (by omega) (eqb ((lb.filter (ofP true 0)).getD k dMsg)) n11 (gt2 (by omega) get_here) (fun x hx => mHC x ((lb.filter (ofP true 0)).getD k dMsg) n11 (hci.2 x hx) (fl_ok hkb _ (getD_mem (by omega))) get_here)) (congrArg (Value.int .i64) (if_neg hc5))) ?_
      intro n14 hn14
      refine OA.p (some 12) (.int .i64 (-1)) rfl rfl rfl rfl ?_
      refine OA.nil ?_
      intro _
      refine RA.seq hd ?_
      refine RA.seq hd ?_
      refine RA.region env_ok ?_
      refine OA.p (some 54) (.int .i64 (-1)) rfl rfl rfl rfl ?_
      refine OA.p (some 55) (.bool true) rfl rfl rfl (r_bin rfl rfl rfl (b_lss rfl)) ?_
      refine OA.nil ?_
      intro _
      refine RA.condT rfl ?_
      refine RA.seq hd ?_
      refine RA.region env_ok ?_
      refine OA.p (some 56) (.int .i64 0) rfl rfl rfl rfl ?_
      refine OA.p (some 57) (.int .i64 2) rfl rfl rfl (r_bin rfl rfl rfl (by kernel_rfl)) ?_
      refine OA.p (some 5) (.int .i64 2) rfl rfl rfl rfl ?_
      refine OA.nil ?_
      intro _
      refine RA.exit env_ok ?_
      intro _
      refine RA.region env_ok ?_
      refine OA.p (some 63) (.int .i64 (((k + 1) : Nat) : Int)) rfl rfl rfl (r_bin rfl rfl rfl (b_add (i64_eq (by omega)))) ?_
      refine OA.p (some 47) (.int .i64 (((k + 1) : Nat) : Int)) rfl rfl rfl rfl ?_
      refine OA.nil ?_
      refine ⟨Mon10 - (k + 1), by omega, [(jon9, some (oMsg left)), (jon10, some (oMsg (lb.filter (ofP true 0))))], (Less.of (fac (mm (fun _ => get_here) (fun _ => (gt2 (by omega) get_here))) (fac (mm (fun _ => (get_there (by omega) get_here)) (fun _ => (gt3 (by omega) get_here))) fan)) (gone_of (by simp only [goneP, memP, List.cons_append, List.nil_append, true_or, or_true, true_and, and_true, or_false] <;> omega))), .inr (⟨(k + 1), K, left, rfl, by omega, ⟨rfl, rfl, rfl, rfl, rfl, trivial⟩, rfl, (kb2 (by omega)), ⟨by omega, hlf, by omega, cI_miss (by rw [hRl]; omega) hc5 hci, bI_miss (by rw [hRl]; omega) hc5 hci⟩⟩)⟩
    ·
     refine OA.p (some 48) (.bool false) rfl rfl rfl (Eq.trans (r_bin rfl rfl rfl (b_lss rfl)) (dF hc4)) ?_
     refine OA.nil ?_
     intro _
     refine RA.seq hd ?_
     refine RA.condF rfl ?_
     refine RA.exit env_ok ?_
     intro _
     refine RA.seq hd ?_
     refine RA.region env_ok ?_
     refine OA.p (some 64) (.int .i64 0) rfl rfl rfl rfl ?_
     refine OA.p (some 4) (.int .i64 0) rfl rfl rfl rfl ?_
     refine OA.nil ?_
     intro _
     refine RA.ret env_ok ?_
     refine ⟨.inr rfl, [(.int .i64 0)], (resL_cons rfl resL_nil), [], (Less.of (fun p hp => by simp at hp) (gone_of (by simp only [goneP, memP, List.cons_append, List.nil_append, true_or, or_true, true_and, and_true, or_false] <;> omega))), ⟨congrArg (Value.int .i64) (show (0 : Int) = heldZ la lb from by unfold heldZ; rw [ordA_t (by omega) hi2, looA_t (by rw [hRl]; omega) hgi]; rfl), rfl⟩⟩
   ·
    rw [Has.eq hHn11]
    have hKn11_0 : jon9 < n11 := hKn11 _ (by simp only [keys, List.map_cons, List.map_nil, List.mem_cons, true_or, or_true])
    have hKn11_1 : jon10 < n11 := hKn11 _ (by simp only [keys, List.map_cons, List.map_nil, List.mem_cons, true_or, or_true])
    clear hKn11
    obtain ⟨hk1, hlf, hk2, hci, hgi⟩ := hIn11
    refine RA.seq hd ?_
    refine RA.region env_ok ?_
    by_cases hc7 : ((k : Nat) : Int) < ((Mon10 : Nat) : Int)
    ·
     refine OA.p (some 48) (.bool true) rfl rfl rfl (Eq.trans (r_bin rfl rfl rfl (b_lss rfl)) (dT hc7)) ?_
     refine OA.nil ?_
     intro _
     refine RA.seq hd ?_
     refine RA.condT rfl ?_
     refine RA.skip env_ok ?_
     intro _
     refine RA.seq hd ?_
     refine RA.block ?_
     refine RA.seq hd ?_
     refine RA.region env_ok ?_
     refine OA.p (some 49) (Pt jon10 k 0) rfl rfl rfl (r_iaS (l := k) rfl rfl rfl rfl rfl rfl (by omega) (by omega) (get_there (by omega) get_here) rfl (by omega)) ?_
     refine OA.p (some 50) (.agg ⟨(cMsg ((lb.filter (ofP true 0)).getD k dMsg))⟩) rfl rfl rfl (r_loadR (c := cMsg) dMsg rfl rfl rfl rfl (get_there (by omega) get_here) (by rw [hon10]; omega) rfl) ?_
     refine OA.op1 (dst := (some 11)) (v := (Pt n11 0 0)) (n1 := (n11 + 1)) (w := (n11, some ⟨[[(.int .i64 0), (.int .i64 0), (.bool false), (.int .u32 0), (.string ByteArray.empty)]], 5, 117, true⟩)) rfl rfl rfl rfl (by omega) ?_
     refine OA.op1 (dst := none) (v := (.tuple #[])) (n1 := (n11 + 1)) (w := (n11, some ⟨[(cMsg ((lb.filter (ofP true 0)).getD k dMsg))], 5, 117, true⟩)) rfl rfl rfl (r_store rfl rfl rfl rfl rfl rfl rfl get_here rfl rfl (Nat.le_of_ble_eq_true rfl) rfl) (by omega) ?_
     refine OA.nil ?_
     intro _
     refine RA.seq hd ?_
     refine RA.region env_ok ?_
     refine OA.p (some 51) (.slice (some ⟨jon9, 0, none⟩) K 2) rfl rfl rfl rfl ?_
     refine OA.p (some 52) (.func (.func 79) ⟨[]⟩ ⟨[(Pt n11 0 0)]⟩) rfl rfl rfl rfl ?_
     by_cases hc8 : (left.findIdx (eqb ((lb.filter (ofP true 0)).getD k dMsg))) < left.length
     ·
      refine OA.callP (dst := (some 53)) (all := (xMh32 jon9 K n11)) (v := (.int .i64 (((left.findIdx (eqb ((lb.filter (ofP true 0)).getD k dMsg))) : Nat) : Int))) (hd.of (by omega) (kb4 (by omega))) rfl rfl rfl rfl rfl rfl rfl rfl (PS.to (mIdx jon9 K left (by rw [hlf]) (by omega) (eqb ((lb.filter (ofP true 0)).getD k dMsg)) n11 (gt2 (by omega) get_here) (fun x hx => mHC x ((lb.filter (ofP true 0)).getD k dMsg) n11 (hci.2 x hx) (fl_ok hkb _ (getD_mem (by omega))) get_here)) (congrArg (Value.int .i64) (if_pos hc8))) ?_
      intro n15 hn15
      refine OA.p (some 12) (.int .i64 (((left.findIdx (eqb ((lb.filter (ofP true 0)).getD k dMsg))) : Nat) : Int)) rfl rfl rfl rfl ?_
      refine OA.nil ?_
      intro _
      refine RA.seq hd ?_
      refine RA.seq hd ?_
      refine RA.region env_ok ?_
      refine OA.p (some 54) (.int .i64 (((left.findIdx (eqb ((lb.filter (ofP true 0)).getD k dMsg))) : Nat) : Int)) rfl rfl rfl rfl ?_
      have hc9 : ¬ ((((left.findIdx (eqb ((lb.filter (ofP true 0)).getD k dMsg))) : Nat) : Int) < 0) := fun hdd => by exfalso; omega
      refine OA.p (some 55) (.bool false) rfl rfl rfl (Eq.trans (r_bin rfl rfl rfl (b_lss rfl)) (dF hc9)) ?_
      refine OA.nil ?_
      intro _
      refine RA.condF rfl ?_
      refine RA.skip env_ok ?_
      intro _
      refine RA.region env_ok ?_
      refine OA.p (some 58) (.slice (some ⟨jon9, 0, none⟩) K 2) rfl rfl rfl rfl ?_
      refine OA.p (some 59) (.int .i64 (((left.findIdx (eqb ((lb.filter (ofP true 0)).getD k dMsg))) : Nat) : Int)) rfl rfl rfl rfl ?_
      refine OA.p (some 60) (.int .i64 (((left.findIdx (eqb ((lb.filter (ofP true 0)).getD k dMsg))) : Nat) : Int)) rfl rfl rfl rfl ?_
      refine OA.p (some 61) (.int .i64 ((((left.findIdx (eqb ((lb.filter (ofP true 0)).getD k dMsg))) + 1) : Nat) : Int)) rfl rfl rfl (r_bin rfl rfl rfl (b_add (i64_eq (by omega)))) ?_
      refine OA.call (dst := (some 62)) (all := [(.slice (some ⟨jon9, 0, none⟩) K 2), (.int .i64 (((left.findIdx (eqb ((lb.filter (ofP true 0)).getD k dMsg))) : Nat) : Int)), (.int .i64 ((((left.findIdx (eqb ((lb.filter (ofP true 0)).getD k dMsg))) + 1) : Nat) : Int))]) rfl rfl rfl rfl rfl rfl rfl rfl (CQ.imp (mDel (hd.of (by omega) (kb4 (by omega))) jon9 K (left.findIdx (eqb ((lb.filter (ofP true 0)).getD k dMsg))) left (by rw [hlf]) (by omega) (by omega) (gt2 (by omega) get_here)) ?_)
      rintro _ n16 _ ⟨rfl, rfl⟩ hn16
      refine OA.app1 ?_
      refine OA.p (some 9) (.slice (some ⟨jon9, 0, none⟩) (K - 1) 2) rfl rfl rfl rfl ?_
      refine OA.nil ?_
      intro _
      refine RA.region env_ok ?_
      refine OA.p (some 63) (.int .i64 (((k + 1) : Nat) : Int)) rfl rfl rfl (r_bin rfl rfl rfl (b_add (i64_eq (by omega)))) ?_
      refine OA.p (some 47) (.int .i64 (((k + 1) : Nat) : Int)) rfl rfl rfl rfl ?_
      refine OA.nil ?_
      refine ⟨Mon10 - (k + 1), by omega, [(jon9, some (oMsg (left.eraseIdx (left.findIdx (eqb ((lb.filter (ofP true 0)).getD k dMsg)))))), (jon10, some (oMsg (lb.filter (ofP true 0))))], (Less.of (fac (mm (fun _ => get_here) (fun _ => get_here)) (fac (mm (fun _ => (get_there (by omega) get_here)) (fun _ => (gt4 (by omega) get_here))) fan)) (gone_of (by simp only [goneP, memP, List.cons_append, List.nil_append, true_or, or_true, true_and, and_true, or_false] <;> omega))), .inr (⟨(k + 1), (K - 1), (left.eraseIdx (left.findIdx (eqb ((lb.filter (ofP true 0)).getD k dMsg)))), rfl, by omega, ⟨rfl, rfl, rfl, rfl, rfl, trivial⟩, rfl, (kb2 (by omega)), ⟨by omega, er_len hc8 hlf, by omega, cI_del (by rw [hRl]; omega) hc8 hci, bI_more (by rw [hRl]; omega) hgi⟩⟩)⟩
     ·
      refine OA.callP (dst := (some 53)) (all := (xMh32 jon9 K n11)) (v := (.int .i64 (-1))) (hd.of (by omega) (kb4 (by omega))) rfl rfl rfl rfl rfl rfl rfl rfl (PS.to (mIdx jon9 K left (by rw [hlf]) (by omega) (eqb ((lb.filter (ofP true 0)).getD k dMsg)) n11 (gt2 (by omega) get_here) (fun x hx => mHC x ((lb.filter (ofP true 0)).getD k dMsg) n11 (hci.2 x hx) (fl_ok hkb _ (getD_mem (by omega))) get_here)) (congrArg (Value.int .i64) (if_neg hc8))) ?_
      intro n17 hn17
      refine OA.p (some 12) (.int .i64 (-1)) rfl rfl rfl rfl ?_
      refine OA.nil ?_
      intro _
      refine RA.seq hd ?_
      refine RA.seq hd ?_
      refine RA.region env_ok ?_
      refine OA.p (some 54) (.int .i64 (-1)) rfl rfl rfl rfl ?_
      refine OA.p (some 55) (.bool true) rfl rfl rfl (r_bin rfl rfl rfl (b_lss rfl)) ?_
      refine OA.nil ?_
      intro _
      refine RA.condT rfl ?_
      refine RA.seq hd ?_
      refine RA.region env_ok ?_
      refine OA.p (some 56) (.int .i64 2) rfl rfl rfl rfl ?_
      refine OA.p (some 57) (.int .i64 2) rfl rfl rfl (r_bin rfl rfl rfl (by kernel_rfl)) ?_
      refine OA.p (some 5) (.int .i64 2) rfl rfl rfl rfl ?_
      refine OA.nil ?_
      intro _
      refine RA.exit env_ok ?_
      intro _
      refine RA.region env_ok ?_
      refine OA.p (some 63) (.int .i64 (((k + 1) : Nat) : Int)) rfl rfl rfl (r_bin rfl rfl rfl (b_add (i64_eq (by omega)))) ?_
      refine OA.p (some 47) (.int .i64 (((k + 1) : Nat) : Int)) rfl rfl rfl rfl ?_
      refine OA.nil ?_
      refine ⟨Mon10 - (k + 1), by omega, [(jon9, some (oMsg left)), (jon10, some (oMsg (lb.filter (ofP true 0))))], (Less.of (fac (mm (fun _ => get_here) (fun _ => (gt2 (by omega) get_here))) (fac (mm (fun _ => (get_there (by omega) get_here)) (fun _ => (gt3 (by omega) get_here))) fan)) (gone_of (by simp only [goneP, memP, List.cons_append, List.nil_append, true_or, or_true, true_and, and_true, or_false] <;> omega))), .inr (⟨(k + 1), K, left, rfl, by omega, ⟨rfl, rfl, rfl, rfl, rfl, trivial⟩, rfl, (kb2 (by omega)), ⟨by omega, hlf, by omega, cI_miss (by rw [hRl]; omega) hc8 hci, bI_miss (by rw [hRl]; omega) hc8 hci⟩⟩)⟩
    ·
     refine OA.p (some 48) (.bool false) rfl rfl rfl (Eq.trans (r_bin rfl rfl rfl (b_lss rfl)) (dF hc7)) ?_
     refine OA.nil ?_
     intro _
     refine RA.seq hd ?_
     refine RA.condF rfl ?_
     refine RA.exit env_ok ?_
     intro _
     refine RA.seq hd ?_
     refine RA.region env_ok ?_
     refine OA.p (some 64) (.int .i64 2) rfl rfl rfl rfl ?_
     refine OA.p (some 4) (.int .i64 2) rfl rfl rfl rfl ?_
     refine OA.nil ?_
     intro _
     refine RA.ret env_ok ?_
     refine ⟨.inr rfl, [(.int .i64 2)], (resL_cons rfl resL_nil), [], (Less.of (fun p hp => by simp at hp) (gone_of (by simp only [goneP, memP, List.cons_append, List.nil_append, true_or, or_true, true_and, and_true, or_false] <;> omega))), ⟨congrArg (Value.int .i64) (show (2 : Int) = heldZ la lb from by unfold heldZ; rw [ordA_t (by omega) hi2, looA_f (by rw [hRl]; omega) hgi]; rfl), rfl⟩⟩
 ·
  rw [Has.eq hHn1]
  obtain ⟨hi1, hi2⟩ := hIn1
  refine RA.seq hd ?_
  refine RA.region env_ok ?_
  by_cases hc10 : ((i : Nat) : Int) < 16
  ·
   refine OA.p (some 14) (.bool true) rfl rfl rfl (Eq.trans (r_bin rfl rfl rfl (b_lss rfl)) (dT hc10)) ?_
   refine OA.nil ?_
   intro _
   refine RA.seq hd ?_
   refine RA.condT rfl ?_
   refine RA.skip env_ok ?_
   intro _
   refine RA.seq hd ?_
   refine RA.block ?_
   refine RA.seq hd ?_
   refine RA.region env_ok ?_
   refine OA.p (some 15) (.int .i64 ((i : Nat) : Int)) rfl rfl rfl rfl ?_
   refine OA.p (some 6) (.int .i64 ((i : Nat) : Int)) rfl rfl rfl rfl ?_
   refine OA.nil ?_
   intro _
   refine RA.seq hd ?_
   refine RA.region env_ok ?_
   refine OA.p (some 16) (.slice (some ⟨ja, 0, none⟩) A 2) rfl rfl rfl rfl ?_
   refine OA.p (some 17) (.int .i64 ((i : Nat) : Int)) rfl rfl rfl rfl ?_
   refine OA.call (dst := (some 18)) (all := [(.slice (some ⟨ja, 0, none⟩) A 2), (.int .i64 ((i : Nat) : Int)), (.bool false)]) rfl rfl rfl rfl rfl rfl rfl rfl (CQ.imp (mOf (hd.up (by omega)) ja A la hla (by omega) false ((i : Nat) : Int) hja) ?_)
   rintro _ n18 _ ⟨jon18, o1n18, o2n18, Mon18, hon18, hmn18, rfl, rfl⟩ hn18
   refine OA.app1 ?_
   refine OA.p (some 19) (.slice (some ⟨jb, 0, none⟩) B 2) rfl rfl rfl rfl ?_
   refine OA.p (some 20) (.int .i64 ((i : Nat) : Int)) rfl rfl rfl rfl ?_
   refine OA.call (dst := (some 21)) (all := [(.slice (some ⟨jb, 0, none⟩) B 2), (.int .i64 ((i : Nat) : Int)), (.bool false)]) rfl rfl rfl rfl rfl rfl rfl rfl (CQ.imp (mOf (hd.of (by omega) (kb1 (by omega))) jb B lb hlb (by omega) false ((i : Nat) : Int) (get_there (by omega) hjb)) ?_)
   rintro _ n19 _ ⟨jon19, o1n19, o2n19, Mon19, hon19, hmn19, rfl, rfl⟩ hn19
   refine OA.app1 ?_
   refine OA.p (some 7) (.slice (some ⟨jon18, 0, none⟩) Mon18 2) rfl rfl rfl rfl ?_
   refine OA.p (some 8) (.slice (some ⟨jon19, 0, none⟩) Mon19 2) rfl rfl rfl rfl ?_
   refine OA.nil ?_
   intro _
   refine RA.seq hd ?_
   refine RA.region env_ok ?_
   refine OA.p (some 22) (.slice (some ⟨jon19, 0, none⟩) Mon19 2) rfl rfl rfl rfl ?_
   refine OA.p (some 23) (.int .i64 ((Mon19 : Nat) : Int)) rfl rfl rfl rfl ?_
   refine OA.p (some 24) (.slice (some ⟨jon18, 0, none⟩) Mon18 2) rfl rfl rfl rfl ?_
   refine OA.p (some 25) (.int .i64 ((Mon18 : Nat) : Int)) rfl rfl rfl rfl ?_
   by_cases hc11 : ((Mon18 : Nat) : Int) < ((Mon19 : Nat) : Int)
   ·
    refine OA.p (some 26) (.bool true) rfl rfl rfl (Eq.trans (r_bin rfl rfl rfl (b_gtr rfl)) (dT hc11)) ?_
    refine OA.p (some 27) (.bool true) rfl rfl rfl rfl ?_
    refine OA.off (dst := (some 28)) rfl rfl rfl ?_
    refine OA.off (dst := (some 29)) rfl rfl rfl ?_
    refine OA.off (dst := (some 30)) rfl rfl rfl ?_
    refine OA.off (dst := (some 31)) rfl rfl rfl ?_
    refine OA.off (dst := (some 32)) rfl rfl rfl ?_
    refine OA.off (dst := (some 33)) rfl rfl rfl ?_
    refine OA.off (dst := (some 34)) rfl rfl rfl ?_
    refine OA.off (dst := (some 35)) rfl rfl rfl ?_
    refine OA.off (dst := (some 36)) rfl rfl rfl ?_
    refine OA.off (dst := (some 37)) rfl rfl rfl ?_
    refine OA.p (some 38) (.bool true) rfl rfl rfl rfl ?_
    refine OA.nil ?_
    intro _
    refine RA.rebase [(0, (.slice (some ⟨ja, 0, none⟩) A 2)), (1, (.slice (some ⟨jb, 0, none⟩) B 2)), (5, (.int .i64 1)), (6, (.int .i64 ((i : Nat) : Int))), (7, (.slice (some ⟨jon18, 0, none⟩) Mon18 2)), (8, (.slice (some ⟨jon19, 0, none⟩) Mon19 2)), (13, (.int .i64 ((i : Nat) : Int))), (14, (.bool true)), (38, (.bool true))] ⟨rfl, rfl, rfl, rfl, rfl, rfl, rfl, rfl, rfl, trivial⟩ (fun τr20 => ?_)
    refine RA.condT rfl ?_
    refine RA.region env_ok ?_
    refine OA.p (some 39) (.int .i64 1) rfl rfl rfl rfl ?_
    refine OA.p (some 40) (.int .i64 1) rfl rfl rfl (r_bin rfl rfl rfl (by kernel_rfl)) ?_
    refine OA.p (some 5) (.int .i64 1) rfl rfl rfl rfl ?_
    refine OA.nil ?_
    intro _
    refine RA.region env_ok ?_
    refine OA.p (some 41) (.int .i64 (((i + 1) : Nat) : Int)) rfl rfl rfl (r_bin rfl rfl rfl (b_add (i64_eq (by omega)))) ?_
    refine OA.p (some 13) (.int .i64 (((i + 1) : Nat) : Int)) rfl rfl rfl rfl ?_
    refine OA.nil ?_
    refine ⟨16 - (i + 1), by omega, [], (Less.of (fun p hp => by simp at hp) (gone_of (by simp only [goneP, memP, List.cons_append, List.nil_append, true_or, or_true, true_and, and_true, or_false] <;> omega))), .inr (⟨(i + 1), rfl, by omega, ⟨rfl, rfl, rfl, rfl, trivial⟩, rfl, (fun i hi => by cases hi), ⟨by omega, ex_more hi2⟩⟩)⟩
   ·
    refine OA.p (some 26) (.bool false) rfl rfl rfl (Eq.trans (r_bin rfl rfl rfl (b_gtr rfl)) (dF hc11)) ?_
    refine OA.p (some 27) (.bool false) rfl rfl rfl rfl ?_
    refine OA.p (some 28) (.slice (some ⟨jon18, 0, none⟩) Mon18 2) rfl rfl rfl rfl ?_
    refine OA.p (some 29) (.slice (some ⟨jon18, 0, none⟩) Mon18 2) rfl rfl rfl rfl ?_
    refine OA.p (some 30) (.int .i64 ((Mon18 : Nat) : Int)) rfl rfl rfl rfl ?_
    refine OA.p (some 31) (.slice (some ⟨jon19, 0, none⟩) Mon19 2) rfl rfl rfl rfl ?_
    refine OA.p (some 32) (.int .i64 ((Mon19 : Nat) : Int)) rfl rfl rfl rfl ?_
    refine OA.p (some 33) (.int .i64 (((min Mon18 Mon19) : Nat) : Int)) rfl rfl rfl (r_min (a := Mon18) (b := Mon19) rfl rfl rfl) ?_
    refine OA.p (some 34) (.slice (some ⟨jon18, 0, none⟩) (min Mon18 Mon19) 2) rfl rfl rfl (r_cut2 (a := 0) (b := (min Mon18 Mon19)) rfl rfl (fun _ => rfl) (fun _ => rfl) rfl rfl rfl rfl (bound_int (by omega)) (get_there (by omega) get_here) rfl (by omega) (by omega) (by rw [List.length_map, hon18]; omega) (by omega) (by omega)) ?_
    refine OA.p (some 35) (.slice (some ⟨jon19, 0, none⟩) Mon19 2) rfl rfl rfl rfl ?_
    by_cases hc12 : (la.filter (ofP false ((i : Nat) : Int))).take (min Mon18 Mon19) = (lb.filter (ofP false ((i : Nat) : Int)))
    ·
     refine OA.callP (dst := (some 36)) (all := [(.slice (some ⟨jon18, 0, none⟩) (min Mon18 Mon19) 2), (.slice (some ⟨jon19, 0, none⟩) Mon19 2), (.func (.func 77) ⟨[]⟩ ⟨[]⟩)]) (v := (.bool true)) (hd.of (by omega) (kb2 (by omega))) rfl rfl rfl rfl rfl rfl rfl rfl (PS.to (mEq jon18 jon19 Mon18 (min Mon18 Mon19) Mon19 (la.filter (ofP false ((i : Nat) : Int))) (lb.filter (ofP false ((i : Nat) : Int))) hon18 hon19 (by omega) (by omega) (by omega) (fl_ok hka) (fl_ok hkb) (get_there (by omega) get_here) get_here) (show (.bool (decide ((la.filter (ofP false ((i : Nat) : Int))).take (min Mon18 Mon19) = (lb.filter (ofP false ((i : Nat) : Int)))))) = ((.bool true) : Value) from (by first | (rw [decide_eq_true hc12]; done) | (rw [decide_eq_true hc12]; rfl)))) ?_
     intro n21 hn21
     refine OA.p (some 37) (.bool false) rfl rfl rfl rfl ?_
     refine OA.p (some 38) (.bool false) rfl rfl rfl rfl ?_
     refine OA.nil ?_
     intro _
     refine RA.rebase [(0, (.slice (some ⟨ja, 0, none⟩) A 2)), (1, (.slice (some ⟨jb, 0, none⟩) B 2)), (5, (.int .i64 1)), (6, (.int .i64 ((i : Nat) : Int))), (7, (.slice (some ⟨jon18, 0, none⟩) Mon18 2)), (8, (.slice (some ⟨jon19, 0, none⟩) Mon19 2)), (13, (.int .i64 ((i : Nat) : Int))), (14, (.bool true)), (38, (.bool false))] ⟨rfl, rfl, rfl, rfl, rfl, rfl, rfl, rfl, rfl, trivial⟩ (fun τr22 => ?_)
     refine RA.condF rfl ?_
     refine RA.skip env_ok ?_
     intro _
     refine RA.region env_ok ?_
     refine OA.p (some 41) (.int .i64 (((i + 1) : Nat) : Int)) rfl rfl rfl (r_bin rfl rfl rfl (b_add (i64_eq (by omega)))) ?_
     refine OA.p (some 13) (.int .i64 (((i + 1) : Nat) : Int)) rfl rfl rfl rfl ?_
     refine OA.nil ?_
     refine ⟨16 - (i + 1), by omega, [], (Less.of (fun p hp => by simp at hp) (gone_of (by simp only [goneP, memP, List.cons_append, List.nil_append, true_or, or_true, true_and, and_true, or_false] <;> omega))), .inr (⟨(i + 1), rfl, by omega, ⟨rfl, rfl, rfl, rfl, trivial⟩, rfl, (fun i hi => by cases hi), ⟨by omega, ex_more hi2⟩⟩)⟩
    ·
     refine OA.callP (dst := (some 36)) (all := [(.slice (some ⟨jon18, 0, none⟩) (min Mon18 Mon19) 2), (.slice (some ⟨jon19, 0, none⟩) Mon19 2), (.func (.func 77) ⟨[]⟩ ⟨[]⟩)]) (v := (.bool false)) (hd.of (by omega) (kb2 (by omega))) rfl rfl rfl rfl rfl rfl rfl rfl (PS.to (mEq jon18 jon19 Mon18 (min Mon18 Mon19) Mon19 (la.filter (ofP false ((i : Nat) : Int))) (lb.filter (ofP false ((i : Nat) : Int))) hon18 hon19 (by omega) (by omega) (by omega) (fl_ok hka) (fl_ok hkb) (get_there (by omega) get_here) get_here) (show (.bool (decide ((la.filter (ofP false ((i : Nat) : Int))).take (min Mon18 Mon19) = (lb.filter (ofP false ((i : Nat) : Int)))))) = ((.bool false) : Value) from (by first | (rw [decide_eq_false hc12]; done) | (rw [decide_eq_false hc12]; rfl)))) ?_
     intro n23 hn23
     refine OA.p (some 37) (.bool true) rfl rfl rfl rfl ?_
     refine OA.p (some 38) (.bool true) rfl rfl rfl rfl ?_
     refine OA.nil ?_
     intro _
     refine RA.rebase [(0, (.slice (some ⟨ja, 0, none⟩) A 2)), (1, (.slice (some ⟨jb, 0, none⟩) B 2)), (5, (.int .i64 1)), (6, (.int .i64 ((i : Nat) : Int))), (7, (.slice (some ⟨jon18, 0, none⟩) Mon18 2)), (8, (.slice (some ⟨jon19, 0, none⟩) Mon19 2)), (13, (.int .i64 ((i : Nat) : Int))), (14, (.bool true)), (38, (.bool true))] ⟨rfl, rfl, rfl, rfl, rfl, rfl, rfl, rfl, rfl, trivial⟩ (fun τr24 => ?_)
     refine RA.condT rfl ?_
     refine RA.region env_ok ?_
     refine OA.p (some 39) (.int .i64 1) rfl rfl rfl rfl ?_
     refine OA.p (some 40) (.int .i64 1) rfl rfl rfl (r_bin rfl rfl rfl (by kernel_rfl)) ?_
     refine OA.p (some 5) (.int .i64 1) rfl rfl rfl rfl ?_
     refine OA.nil ?_
     intro _
     refine RA.region env_ok ?_
     refine OA.p (some 41) (.int .i64 (((i + 1) : Nat) : Int)) rfl rfl rfl (r_bin rfl rfl rfl (b_add (i64_eq (by omega)))) ?_
     refine OA.p (some 13) (.int .i64 (((i + 1) : Nat) : Int)) rfl rfl rfl rfl ?_
     refine OA.nil ?_
     refine ⟨16 - (i + 1), by omega, [], (Less.of (fun p hp => by simp at hp) (gone_of (by simp only [goneP, memP, List.cons_append, List.nil_append, true_or, or_true, true_and, and_true, or_false] <;> omega))), .inr (⟨(i + 1), rfl, by omega, ⟨rfl, rfl, rfl, rfl, trivial⟩, rfl, (fun i hi => by cases hi), ⟨by omega, ex_more hi2⟩⟩)⟩
  ·
   refine OA.p (some 14) (.bool false) rfl rfl rfl (Eq.trans (r_bin rfl rfl rfl (b_lss rfl)) (dF hc10)) ?_
   refine OA.nil ?_
   intro _
   refine RA.seq hd ?_
   refine RA.condF rfl ?_
   refine RA.exit env_ok ?_
   intro _
   refine RA.seq hd ?_
   refine RA.region env_ok ?_
   refine OA.p (some 42) (.slice (some ⟨ja, 0, none⟩) A 2) rfl rfl rfl rfl ?_
   refine OA.call (dst := (some 43)) (all := [(.slice (some ⟨ja, 0, none⟩) A 2), (.int .i64 0), (.bool true)]) rfl rfl rfl rfl rfl rfl rfl rfl (CQ.imp (mOf (hd.up (by omega)) ja A la hla (by omega) true 0 hja) ?_)
   rintro _ n25 _ ⟨jon25, o1n25, o2n25, Mon25, hon25, hmn25, rfl, rfl⟩ hn25
   refine OA.app1 ?_
   refine OA.p (some 9) (.slice (some ⟨jon25, 0, none⟩) Mon25 2) rfl rfl rfl rfl ?_
   refine OA.nil ?_
   intro _
   refine RA.seq hd ?_
   refine RA.seq hd ?_
   refine RA.region env_ok ?_
   refine OA.p (some 44) (.slice (some ⟨jb, 0, none⟩) B 2) rfl rfl rfl rfl ?_
   refine OA.call (dst := (some 45)) (all := [(.slice (some ⟨jb, 0, none⟩) B 2), (.int .i64 0), (.bool true)]) rfl rfl rfl rfl rfl rfl rfl rfl (CQ.imp (mOf (hd.of (by omega) (kb1 (by omega))) jb B lb hlb (by omega) true 0 (get_there (by omega) hjb)) ?_)
   rintro _ n26 _ ⟨jon26, o1n26, o2n26, Mon26, hon26, hmn26, rfl, rfl⟩ hn26
   refine OA.app1 ?_
   refine OA.p (some 46) (.int .i64 ((Mon26 : Nat) : Int)) rfl rfl rfl rfl ?_
   refine OA.p (some 47) (.int .i64 0) rfl rfl rfl rfl ?_
   refine OA.nil ?_
   intro _
   refine RA.block ?_
   have hRl := hon26
   refine RA.weaken (D' := [(jon25, some (oMsg (la.filter (ofP true 0)))), (jon26, some (oMsg (lb.filter (ofP true 0))))]) hd (Less.of (fac (mm (fun _ => get_here) (fun _ => (get_there (by omega) get_here))) (fac (mm (fun _ => (get_there (by omega) get_here)) (fun _ => get_here)) fan)) (gone_of (by simp only [goneP, memP, List.cons_append, List.nil_append, true_or, or_true, true_and, and_true, or_false] <;> omega))) ?_
   refine RA.loop hd (fun kk_ τ n' D => (∃ k : Nat, ∃ K : Nat, ∃ left : List Msg, kk_ = Mon26 - k ∧ n26 ≤ n' ∧ Has τ [(5, (.int .i64 1)), (9, (.slice (some ⟨jon25, 0, none⟩) K 2)), (45, (.slice (some ⟨jon26, 0, none⟩) Mon26 2)), (46, (.int .i64 ((Mon26 : Nat) : Int))), (47, (.int .i64 ((k : Nat) : Int)))] ∧ D = [(jon25, some (oMsg left)), (jon26, some (oMsg (lb.filter (ofP true 0))))] ∧ (∀ i ∈ keys D, i < n') ∧ k ≤ Mon26 ∧ left.length = K ∧ K ≤ 1000 ∧ cI la lb left k ∧ gI la lb k) ∨ (∃ k : Nat, ∃ K : Nat, ∃ left : List Msg, kk_ = Mon26 - k ∧ n26 ≤ n' ∧ Has τ [(5, (.int .i64 3)), (9, (.slice (some ⟨jon25, 0, none⟩) K 2)), (45, (.slice (some ⟨jon26, 0, none⟩) Mon26 2)), (46, (.int .i64 ((Mon26 : Nat) : Int))), (47, (.int .i64 ((k : Nat) : Int)))] ∧ D = [(jon25, some (oMsg left)), (jon26, some (oMsg (lb.filter (ofP true 0))))] ∧ (∀ i ∈ keys D, i < n') ∧ k ≤ Mon26 ∧ left.length = K ∧ K ≤ 1000 ∧ cI la lb left k ∧ bI la lb k)) (Mon26 - 0) (.inl (⟨0, Mon25, (la.filter (ofP true 0)), rfl, by omega, ⟨rfl, rfl, rfl, rfl, rfl, trivial⟩, rfl, (kb2 (by omega)), ⟨by omega, hon25, by omega, cI_0 hka, gI_0⟩⟩)) ?_
   rintro kn27 τ27 n27 Dn27 hSn27
   rcases hSn27 with ⟨k, K, left, rfl, hn27, hHn27, rfl, hKn27, hIn27⟩ | ⟨k, K, left, rfl, hn27, hHn27, rfl, hKn27, hIn27⟩
   ·
    rw [Has.eq hHn27]
    have hKn27_0 : jon25 < n27 := hKn27 _ (by simp only [keys, List.map_cons, List.map_nil, List.mem_cons, true_or, or_true])
    have hKn27_1 : jon26 < n27 := hKn27 _ (by simp only [keys, List.map_cons, List.map_nil, List.mem_cons, true_or, or_true])
    clear hKn27
    obtain ⟨hk1, hlf, hk2, hci, hgi⟩ := hIn27
    refine RA.seq hd ?_
    refine RA.region env_ok ?_
    by_cases hc13 : ((k : Nat) : Int) < ((Mon26 : Nat) : Int)
    ·
     refine OA.p (some 48) (.bool true) rfl rfl rfl (Eq.trans (r_bin rfl rfl rfl (b_lss rfl)) (dT hc13)) ?_
     refine OA.nil ?_
     intro _
     refine RA.seq hd ?_
     refine RA.condT rfl ?_
     refine RA.skip env_ok ?_
     intro _
     refine RA.seq hd ?_
     refine RA.block ?_
     refine RA.seq hd ?_
     refine RA.region env_ok ?_
     refine OA.p (some 49) (Pt jon26 k 0) rfl rfl rfl (r_iaS (l := k) rfl rfl rfl rfl rfl rfl (by omega) (by omega) (get_there (by omega) get_here) rfl (by omega)) ?_
     refine OA.p (some 50) (.agg ⟨(cMsg ((lb.filter (ofP true 0)).getD k dMsg))⟩) rfl rfl rfl (r_loadR (c := cMsg) dMsg rfl rfl rfl rfl (get_there (by omega) get_here) (by rw [hon26]; omega) rfl) ?_
     refine OA.op1 (dst := (some 11)) (v := (Pt n27 0 0)) (n1 := (n27 + 1)) (w := (n27, some ⟨[[(.int .i64 0), (.int .i64 0), (.bool false), (.int .u32 0), (.string ByteArray.empty)]], 5, 117, true⟩)) rfl rfl rfl rfl (by omega) ?_
     refine OA.op1 (dst := none) (v := (.tuple #[])) (n1 := (n27 + 1)) (w := (n27, some ⟨[(cMsg ((lb.filter (ofP true 0)).getD k dMsg))], 5, 117, true⟩)) rfl rfl rfl (r_store rfl rfl rfl rfl rfl rfl rfl get_here rfl rfl (Nat.le_of_ble_eq_true rfl) rfl) (by omega) ?_
     refine OA.nil ?_
     intro _
     refine RA.seq hd ?_
     refine RA.region env_ok ?_
     refine OA.p (some 51) (.slice (some ⟨jon25, 0, none⟩) K 2) rfl rfl rfl rfl ?_
     refine OA.p (some 52) (.func (.func 79) ⟨[]⟩ ⟨[(Pt n27 0 0)]⟩) rfl rfl rfl rfl ?_
     by_cases hc14 : (left.findIdx (eqb ((lb.filter (ofP true 0)).getD k dMsg))) < left.length
     ·
      refine OA.callP (dst := (some 53)) (all := (xMh31 jon25 K n27)) (v := (.int .i64 (((left.findIdx (eqb ((lb.filter (ofP true 0)).getD k dMsg))) : Nat) : Int))) (hd.of (by omega) (kb4 (by omega))) rfl rfl rfl rfl rfl rfl rfl rfl (PS.to (mIdx jon25 K left (by rw [hlf]) (by omega) (eqb ((lb.filter (ofP true 0)).getD k dMsg)) n27 (gt2 (by omega) get_here) (fun x hx => mHC x ((lb.filter (ofP true 0)).getD k dMsg) n27 (hci.2 x hx) (fl_ok hkb _ (getD_mem (by omega))) get_here)) (congrArg (Value.int .i64) (if_pos hc14))) ?_
      intro n28 hn28
      refine OA.p (some 12) (.int .i64 (((left.findIdx (eqb ((lb.filter (ofP true 0)).getD k dMsg))) : Nat) : Int)) rfl rfl rfl rfl ?_
      refine OA.nil ?_
      intro _
      refine RA.seq hd ?_
      refine RA.seq hd ?_
      refine RA.region env_ok ?_
      refine OA.p (some 54) (.int .i64 (((left.findIdx (eqb ((lb.filter (ofP true 0)).getD k dMsg))) : Nat) : Int)) rfl rfl rfl rfl ?_
      have hc15 : ¬ ((((left.findIdx (eqb ((lb.filter (ofP true 0)).getD k dMsg))) : Nat) : Int) < 0) := fun hdd => by exfalso; omega
      refine OA.p (some 55) (.bool false) rfl rfl rfl (Eq.trans (r_bin rfl rfl rfl (b_lss rfl)) (dF hc15)) ?_
      refine OA.nil ?_
      intro _
      refine RA.condF rfl ?_
      refine RA.skip env_ok ?_
      intro _
      refine RA.region env_ok ?_
      refine OA.p (some 58) (.slice (some ⟨jon25, 0, none⟩) K 2) rfl rfl rfl rfl ?_
      refine OA.p (some 59) (.int .i64 (((left.findIdx (eqb ((lb.filter (ofP true 0)).getD k dMsg))) : Nat) : Int)) rfl rfl rfl rfl ?_
      refine OA.p (some 60) (.int .i64 (((left.findIdx (eqb ((lb.filter (ofP true 0)).getD k dMsg))) : Nat) : Int)) rfl rfl rfl rfl ?_
      refine OA.p (some 61) (.int .i64 ((((left.findIdx (eqb ((lb.filter (ofP true 0)).getD k dMsg))) + 1) : Nat) : Int)) rfl rfl rfl (r_bin rfl rfl rfl (b_add (i64_eq (by omega)))) ?_
      refine OA.call (dst := (some 62)) (all := [(.slice (some ⟨jon25, 0, none⟩) K 2), (.int .i64 (((left.findIdx (eqb ((lb.filter (ofP true 0)).getD k dMsg))) : Nat) : Int)), (.int .i64 ((((left.findIdx (eqb ((lb.filter (ofP true 0)).getD k dMsg))) + 1) : Nat) : Int))]) rfl rfl rfl rfl rfl rfl rfl rfl (CQ.imp (mDel (hd.of (by omega) (kb4 (by omega))) jon25 K (left.findIdx (eqb ((lb.filter (ofP true 0)).getD k dMsg))) left (by rw [hlf]) (by omega) (by omega) (gt2 (by omega) get_here)) ?_)
      rintro _ n29 _ ⟨rfl, rfl⟩ hn29
      refine OA.app1 ?_
      refine OA.p (some 9) (.slice (some ⟨jon25, 0, none⟩) (K - 1) 2) rfl rfl rfl rfl ?_
      refine OA.nil ?_
      intro _
      refine RA.region env_ok ?_
      refine OA.p (some 63) (.int .i64 (((k + 1) : Nat) : Int)) rfl rfl rfl (r_bin rfl rfl rfl (b_add (i64_eq (by omega)))) ?_
      refine OA.p (some 47) (.int .i64 (((k + 1) : Nat) : Int)) rfl rfl rfl rfl ?_
      refine OA.nil ?_
      refine ⟨Mon26 - (k + 1), by omega, [(jon25, some (oMsg (left.eraseIdx (left.findIdx (eqb ((lb.filter (ofP true 0)).getD k dMsg)))))), (jon26, some (oMsg (lb.filter (ofP true 0))))], (Less.of (fac (mm (fun _ => get_here) (fun _ => get_here)) (fac (mm (fun _ => (get_there (by omega) get_here)) (fun _ => (gt4 (by omega) get_here))) fan)) (gone_of (by simp only [goneP, memP, List.cons_append, List.nil_append, true_or, or_true, true_and, and_true, or_false] <;> omega))), .inl (⟨(k + 1), (K - 1), (left.eraseIdx (left.findIdx (eqb ((lb.filter (ofP true 0)).getD k dMsg)))), rfl, by omega, ⟨rfl, rfl, rfl, rfl, rfl, trivial⟩, rfl, (kb2 (by omega)), ⟨by omega, er_len hc14 hlf, by omega, cI_del (by rw [hRl]; omega) hc14 hci, gI_del (by rw [hRl]; omega) hc14 hci hgi⟩⟩)⟩
     ·
      refine OA.callP (dst := (some 53)) (all := (xMh31 jon25 K n27)) (v := (.int .i64 (-1))) (hd.of (by omega) (kb4 (by omega))) rfl rfl rfl rfl rfl rfl rfl rfl (PS.to (mIdx jon25 K left (by rw [hlf]) (by omega) (eqb ((lb.filter (ofP true 0)).getD k dMsg)) n27 (gt2 (by omega) get_here) (fun x hx => mHC x ((lb.filter (ofP true 0)).getD k dMsg) n27 (hci.2 x hx) (fl_ok hkb _ (getD_mem (by omega))) get_here)) (congrArg (Value.int .i64) (if_neg hc14))) ?_
      intro n30 hn30
      refine OA.p (some 12) (.int .i64 (-1)) rfl rfl rfl rfl ?_
      refine OA.nil ?_
      intro _
      refine RA.seq hd ?_
      refine RA.seq hd ?_
      refine RA.region env_ok ?_
      refine OA.p (some 54) (.int .i64 (-1)) rfl rfl rfl rfl ?_
      refine OA.p (some 55) (.bool true) rfl rfl rfl (r_bin rfl rfl rfl (b_lss rfl)) ?_
      refine OA.nil ?_
      intro _
      refine RA.condT rfl ?_
      refine RA.seq hd ?_
      refine RA.region env_ok ?_
      refine OA.p (some 56) (.int .i64 1) rfl rfl rfl rfl ?_
      refine OA.p (some 57) (.int .i64 3) rfl rfl rfl (r_bin rfl rfl rfl (by kernel_rfl)) ?_
      refine OA.p (some 5) (.int .i64 3) rfl rfl rfl rfl ?_
      refine OA.nil ?_
      intro _
      refine RA.exit env_ok ?_
      intro _
      refine RA.region env_ok ?_
      refine OA.p (some 63) (.int .i64 (((k + 1) : Nat) : Int)) rfl rfl rfl (r_bin rfl rfl rfl (b_add (i64_eq (by omega)))) ?_
      refine OA.p (some 47) (.int .i64 (((k + 1) : Nat) : Int)) rfl rfl rfl rfl ?_
      refine OA.nil ?_
      refine ⟨Mon26 - (k + 1), by omega, [(jon25, some (oMsg left)), (jon26, some (oMsg (lb.filter (ofP true 0))))], (Less.of (fac (mm (fun _ => get_here) (fun _ => (gt2 (by omega) get_here))) (fac (mm (fun _ => (get_there (by omega) get_here)) (fun _ => (gt3 (by omega) get_here))) fan)) (gone_of (by simp only [goneP, memP, List.cons_append, List.nil_append, true_or, or_true, true_and, and_true, or_false] <;> omega))), .inr (⟨(k + 1), K, left, rfl, by omega, ⟨rfl, rfl, rfl, rfl, rfl, trivial⟩, rfl, (kb2 (by omega)), ⟨by omega, hlf, by omega, cI_miss (by rw [hRl]; omega) hc14 hci, bI_miss (by rw [hRl]; omega) hc14 hci⟩⟩)⟩
    ·
     refine OA.p (some 48) (.bool false) rfl rfl rfl (Eq.trans (r_bin rfl rfl rfl (b_lss rfl)) (dF hc13)) ?_
     refine OA.nil ?_
     intro _
     refine RA.seq hd ?_
     refine RA.condF rfl ?_
     refine RA.exit env_ok ?_
     intro _
     refine RA.seq hd ?_
     refine RA.region env_ok ?_
     refine OA.p (some 64) (.int .i64 1) rfl rfl rfl rfl ?_
     refine OA.p (some 4) (.int .i64 1) rfl rfl rfl rfl ?_
     refine OA.nil ?_
     intro _
     refine RA.ret env_ok ?_
     refine ⟨.inr rfl, [(.int .i64 1)], (resL_cons rfl resL_nil), [], (Less.of (fun p hp => by simp at hp) (gone_of (by simp only [goneP, memP, List.cons_append, List.nil_append, true_or, or_true, true_and, and_true, or_false] <;> omega))), ⟨congrArg (Value.int .i64) (show (1 : Int) = heldZ la lb from by unfold heldZ; rw [ordA_f hi1 hi2, looA_t (by rw [hRl]; omega) hgi]; rfl), rfl⟩⟩
   ·
    rw [Has.eq hHn27]
    have hKn27_0 : jon25 < n27 := hKn27 _ (by simp only [keys, List.map_cons, List.map_nil, List.mem_cons, true_or, or_true])
    have hKn27_1 : jon26 < n27 := hKn27 _ (by simp only [keys, List.map_cons, List.map_nil, List.mem_cons, true_or, or_true])
    clear hKn27
    obtain ⟨hk1, hlf, hk2, hci, hgi⟩ := hIn27
    refine RA.seq hd ?_
    refine RA.region env_ok ?_
    by_cases hc16 : ((k : Nat) : Int) < ((Mon26 : Nat) : Int)
    ·
     refine OA.p (some 48) (.bool true) rfl rfl rfl (Eq.trans (r_bin rfl rfl rfl (b_lss rfl)) (dT hc16)) ?_
     refine OA.nil ?_
     intro _
     refine RA.seq hd ?_
     refine RA.condT rfl ?_
     refine RA.skip env_ok ?_
     intro _
     refine RA.seq hd ?_
     refine RA.block ?_
     refine RA.seq hd ?_
     refine RA.region env_ok ?_
     refine OA.p (some 49) (Pt jon26 k 0) rfl rfl rfl (r_iaS (l := k) rfl rfl rfl rfl rfl rfl (by omega) (by omega) (get_there (by omega) get_here) rfl (by omega)) ?_
     refine OA.p (some 50) (.agg ⟨(cMsg ((lb.filter (ofP true 0)).getD k dMsg))⟩) rfl rfl rfl (r_loadR (c := cMsg) dMsg rfl rfl rfl rfl (get_there (by omega) get_here) (by rw [hon26]; omega) rfl) ?_
     refine OA.op1 (dst := (some 11)) (v := (Pt n27 0 0)) (n1 := (n27 + 1)) (w := (n27, some ⟨[[(.int .i64 0), (.int .i64 0), (.bool false), (.int .u32 0), (.string ByteArray.empty)]], 5, 117, true⟩)) rfl rfl rfl rfl (by omega) ?_
     refine OA.op1 (dst := none) (v := (.tuple #[])) (n1 := (n27 + 1)) (w := (n27, some ⟨[(cMsg ((lb.filter (ofP true 0)).getD k dMsg))], 5, 117, true⟩)) rfl rfl rfl (r_store rfl rfl rfl rfl rfl rfl rfl get_here rfl rfl (Nat.le_of_ble_eq_true rfl) rfl) (by omega) ?_
     refine OA.nil ?_
     intro _
     refine RA.seq hd ?_
     refine RA.region env_ok ?_
     refine OA.p (some 51) (.slice (some ⟨jon25, 0, none⟩) K 2) rfl rfl rfl rfl ?_
     refine OA.p (some 52) (.func (.func 79) ⟨[]⟩ ⟨[(Pt n27 0 0)]⟩) rfl rfl rfl rfl ?_
     by_cases hc17 : (left.findIdx (eqb ((lb.filter (ofP true 0)).getD k dMsg))) < left.length
     ·
      refine OA.callP (dst := (some 53)) (all := (xMh31 jon25 K n27)) (v := (.int .i64 (((left.findIdx (eqb ((lb.filter (ofP true 0)).getD k dMsg))) : Nat) : Int))) (hd.of (by omega) (kb4 (by omega))) rfl rfl rfl rfl rfl rfl rfl rfl (PS.to (mIdx jon25 K left (by rw [hlf]) (by omega) (eqb ((lb.filter (ofP true 0)).getD k dMsg)) n27 (gt2 (by omega) get_here) (fun x hx => mHC x ((lb.filter (ofP true 0)).getD k dMsg) n27 (hci.2 x hx) (fl_ok hkb _ (getD_mem (by omega))) get_here)) (congrArg (Value.int .i64) (if_pos hc17))) ?_
      intro n31 hn31
      refine OA.p (some 12) (.int .i64 (((left.findIdx (eqb ((lb.filter (ofP true 0)).getD k dMsg))) : Nat) : Int)) rfl rfl rfl rfl ?_
      refine OA.nil ?_
      intro _
      refine RA.seq hd ?_
      refine RA.seq hd ?_
      refine RA.region env_ok ?_
      refine OA.p (some 54) (.int .i64 (((left.findIdx (eqb ((lb.filter (ofP true 0)).getD k dMsg))) : Nat) : Int)) rfl rfl rfl rfl ?_
      have hc18 : ¬ ((((left.findIdx (eqb ((lb.filter (ofP true 0)).getD k dMsg))) : Nat) : Int) < 0) := fun hdd => by exfalso; omega
      refine OA.p (some 55) (.bool false) rfl rfl rfl (Eq.trans (r_bin rfl rfl rfl (b_lss rfl)) (dF hc18)) ?_
      refine OA.nil ?_
      intro _
      refine RA.condF rfl ?_
      refine RA.skip env_ok ?_
      intro _
      refine RA.region env_ok ?_
      refine OA.p (some 58) (.slice (some ⟨jon25, 0, none⟩) K 2) rfl rfl rfl rfl ?_
      refine OA.p (some 59) (.int .i64 (((left.findIdx (eqb ((lb.filter (ofP true 0)).getD k dMsg))) : Nat) : Int)) rfl rfl rfl rfl ?_
      refine OA.p (some 60) (.int .i64 (((left.findIdx (eqb ((lb.filter (ofP true 0)).getD k dMsg))) : Nat) : Int)) rfl rfl rfl rfl ?_
      refine OA.p (some 61) (.int .i64 ((((left.findIdx (eqb ((lb.filter (ofP true 0)).getD k dMsg))) + 1) : Nat) : Int)) rfl rfl rfl (r_bin rfl rfl rfl (b_add (i64_eq (by omega)))) ?_
      refine OA.call (dst := (some 62)) (all := [(.slice (some ⟨jon25, 0, none⟩) K 2), (.int .i64 (((left.findIdx (eqb ((lb.filter (ofP true 0)).getD k dMsg))) : Nat) : Int)), (.int .i64 ((((left.findIdx (eqb ((lb.filter (ofP true 0)).getD k dMsg))) + 1) : Nat) : Int))]) rfl rfl rfl rfl rfl rfl rfl rfl (CQ.imp (mDel (hd.of (by omega) (kb4 (by omega))) jon25 K (left.findIdx (eqb ((lb.filter (ofP true 0)).getD k dMsg))) left (by rw [hlf]) (by omega) (by omega) (gt2 (by omega) get_here)) ?_)
      rintro _ n32 _ ⟨rfl, rfl⟩ hn32
      refine OA.app1 ?_
      refine OA.p (some 9) (.slice (some ⟨jon25, 0, none⟩) (K - 1) 2) rfl rfl rfl rfl ?_
      refine OA.nil ?_
      intro _
      refine RA.region env_ok ?_
      refine OA.p (some 63) (.int .i64 (((k + 1) : Nat) : Int)) rfl rfl rfl (r_bin rfl rfl rfl (b_add (i64_eq (by omega)))) ?_
      refine OA.p (some 47) (.int .i64 (((k + 1) : Nat) : Int)) rfl rfl rfl rfl ?_
      refine OA.nil ?_
      refine ⟨Mon26 - (k + 1), by omega, [(jon25, some (oMsg (left.eraseIdx (left.findIdx (eqb ((lb.filter (ofP true 0)).getD k dMsg)))))), (jon26, some (oMsg (lb.filter (ofP true 0))))], (Less.of (fac (mm (fun _ => get_here) (fun _ => get_here)) (fac (mm (fun _ => (get_there (by omega) get_here)) (fun _ => (gt4 (by omega) get_here))) fan)) (gone_of (by simp only [goneP, memP, List.cons_append, List.nil_append, true_or, or_true, true_and, and_true, or_false] <;> omega))), .inr (⟨(k + 1), (K - 1), (left.eraseIdx (left.findIdx (eqb ((lb.filter (ofP true 0)).getD k dMsg)))), rfl, by omega, ⟨rfl, rfl, rfl, rfl, rfl, trivial⟩, rfl, (kb2 (by omega)), ⟨by omega, er_len hc17 hlf, by omega, cI_del (by rw [hRl]; omega) hc17 hci, bI_more (by rw [hRl]; omega) hgi⟩⟩)⟩
     ·
      refine OA.callP (dst := (some 53)) (all := (xMh31 jon25 K n27)) (v := (.int .i64 (-1))) (hd.of (by omega) (kb4 (by omega))) rfl rfl rfl rfl rfl rfl rfl rfl (PS.to (mIdx jon25 K left (by rw [hlf]) (by omega) (eqb ((lb.filter (ofP true 0)).getD k dMsg)) n27 (gt2 (by omega) get_here) (fun x hx => mHC x ((lb.filter (ofP true 0)).getD k dMsg) n27 (hci.2 x hx) (fl_ok hkb _ (getD_mem (by omega))) get_here)) (congrArg (Value.int .i64) (if_neg hc17))) ?_
      intro n33 hn33
      refine OA.p (some 12) (.int .i64 (-1)) rfl rfl rfl rfl ?_
      refine OA.nil ?_
      intro _
      refine RA.seq hd ?_
      refine RA.seq hd ?_
      refine RA.region env_ok ?_
      refine OA.p (some 54) (.int .i64 (-1)) rfl rfl rfl rfl ?_
      refine OA.p (some 55) (.bool true) rfl rfl rfl (r_bin rfl rfl rfl (b_lss rfl)) ?_
      refine OA.nil ?_
      intro _
      refine RA.condT rfl ?_
      refine RA.seq hd ?_
      refine RA.region env_ok ?_
      refine OA.p (some 56) (.int .i64 3) rfl rfl rfl rfl ?_
      refine OA.p (some 57) (.int .i64 3) rfl rfl rfl (r_bin rfl rfl rfl (by kernel_rfl)) ?_
      refine OA.p (some 5) (.int .i64 3) rfl rfl rfl rfl ?_
      refine OA.nil ?_
      intro _
      refine RA.exit env_ok ?_
      intro _
      refine RA.region env_ok ?_
      refine OA.p (some 63) (.int .i64 (((k + 1) : Nat) : Int)) rfl rfl rfl (r_bin rfl rfl rfl (b_add (i64_eq (by omega)))) ?_
      refine OA.p (some 47) (.int .i64 (((k + 1) : Nat) : Int)) rfl rfl rfl rfl ?_
      refine OA.nil ?_
      refine ⟨Mon26 - (k + 1), by omega, [(jon25, some (oMsg left)), (jon26, some (oMsg (lb.filter (ofP true 0))))], (Less.of (fac (mm (fun _ => get_here) (fun _ => (gt2 (by omega) get_here))) (fac (mm (fun _ => (get_there (by omega) get_here)) (fun _ => (gt3 (by omega) get_here))) fan)) (gone_of (by simp only [goneP, memP, List.cons_append, List.nil_append, true_or, or_true, true_and, and_true, or_false] <;> omega))), .inr (⟨(k + 1), K, left, rfl, by omega, ⟨rfl, rfl, rfl, rfl, rfl, trivial⟩, rfl, (kb2 (by omega)), ⟨by omega, hlf, by omega, cI_miss (by rw [hRl]; omega) hc17 hci, bI_miss (by rw [hRl]; omega) hc17 hci⟩⟩)⟩
    ·
     refine OA.p (some 48) (.bool false) rfl rfl rfl (Eq.trans (r_bin rfl rfl rfl (b_lss rfl)) (dF hc16)) ?_
     refine OA.nil ?_
     intro _
     refine RA.seq hd ?_
     refine RA.condF rfl ?_
     refine RA.exit env_ok ?_
     intro _
     refine RA.seq hd ?_
     refine RA.region env_ok ?_
     refine OA.p (some 64) (.int .i64 3) rfl rfl rfl rfl ?_
     refine OA.p (some 4) (.int .i64 3) rfl rfl rfl rfl ?_
     refine OA.nil ?_
     intro _
     refine RA.ret env_ok ?_
     refine ⟨.inr rfl, [(.int .i64 3)], (resL_cons rfl resL_nil), [], (Less.of (fun p hp => by simp at hp) (gone_of (by simp only [goneP, memP, List.cons_append, List.nil_append, true_or, or_true, true_and, and_true, or_false] <;> omega))), ⟨congrArg (Value.int .i64) (show (3 : Int) = heldZ la lb from by unfold heldZ; rw [ordA_f hi1 hi2, looA_f (by rw [hRl]; omega) hgi]; rfl), rfl⟩⟩
end Go.Proofs.Ytnjknabighmedaa.Vt
