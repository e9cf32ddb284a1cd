/- Mh1: walks through functions of the program, by the calculus; written by a program of this workplace. -/
import Derived.Test.YtnjknabighmedaaEnv
import Derived.Test.YtnjknabighmedaaVm6
namespace Go.Proofs.Ytnjknabighmedaa.Vt
open Go Go.Proofs Go.Proofs.YtnjknabighmedaaV
set_option maxRecDepth 100000
set_option linter.unusedVariables false
set_option linter.unusedSimpArgs false
structure Msg where
  st : Int
  ssn : Int
  loose : Bool
  proto : BitVec 32
  data : ByteArray
deriving DecidableEq
def dMsg : Msg := ⟨0, 0, false, 0#32, ByteArray.empty⟩
abbrev cMsg (e : Msg) : List Value := [(.int .i64 e.st), (.int .i64 e.ssn), (.bool e.loose), (W e.proto), (.string e.data)]
abbrev oMsg (l : List Msg) : AObj := ⟨l.map cMsg, 5, 117, true⟩
def idxZ {α : Type} (p : α → Bool) (l : List α) : Int := if l.findIdx p < l.length then ((l.findIdx p : Nat) : Int) else -1
theorem fi_le {α : Type} {p : α → Bool} {l : List α} : l.findIdx p ≤ l.length := List.findIdx_le_length
theorem fi_found {α : Type} {d : α} {p : α → Bool} {l : List α} {i : Nat} (h : i < l.length) (hp : p (l.getD i d) = true) (hi : i ≤ l.findIdx p) : l.findIdx p = i := by
  rcases Nat.lt_or_ge i (l.findIdx p) with h1 | h1
  · have := List.not_of_lt_findIdx h1
    rw [List.getD_eq_getElem?_getD, List.getElem?_eq_getElem h] at hp
    simp only [Option.getD_some] at hp
    rw [hp] at this; simp at this
  · omega
theorem fi_step {α : Type} {d : α} {p : α → Bool} {l : List α} {i : Nat} (h : i < l.length) (hp : ¬ p (l.getD i d) = true) (hi : i ≤ l.findIdx p) : i + 1 ≤ l.findIdx p := by
  rcases Nat.lt_or_ge i (l.findIdx p) with h1 | h1
  · omega
  · exfalso; apply hp
    have e : l.findIdx p = i := by omega
    have h2 : l.findIdx p < l.length := by omega
    have h3 := List.findIdx_getElem (p := p) (xs := l) (w := h2)
    rw [List.getD_eq_getElem?_getD, List.getElem?_eq_getElem h]
    simp only [Option.getD_some]
    simpa only [e] using h3
theorem fi_any {α : Type} {p : α → Bool} {l : List α} : decide (l.findIdx p < l.length) = l.any p := by
  rw [Bool.eq_iff_iff, decide_eq_true_eq, List.findIdx_lt_length, List.any_eq_true]
theorem idxZ_any {α : Type} {p : α → Bool} {l : List α} : decide (idxZ p l ≥ 0) = l.any p := by
  rw [← fi_any]; unfold idxZ
  split <;> rename_i h
  · rw [decide_eq_true h, decide_eq_true (by omega)]
  · rw [decide_eq_false h, decide_eq_false (by omega)]
theorem take_all' {α : Type} {l : List α} {k : Nat} (h : l.length = k) : (l.drop 0).take k = l := by subst h; simp
theorem take_succ_getD {α : Type} {l : List α} {i : Nat} {d : α} (h : i < l.length) : l.take (i + 1) = l.take i ++ [l.getD i d] := by
  rw [List.take_succ_eq_append_getElem h, List.getD_eq_getElem?_getD, List.getElem?_eq_getElem h]; rfl
def okM (e : Msg) : Prop := e.ssn = 0 ∧ e.proto = 0#32 ∧ 0 ≤ e.st ∧ e.st < 2
def cutM (e : Msg) : Msg := ⟨((andN e.st 1 : Nat) : Int), 0, e.loose, 0#32, e.data.extract 0 (min e.data.size 2)⟩
def cutL (l : List Msg) : List Msg := (l.take 20).map cutM
theorem cutL_ok {l : List Msg} : ∀ m ∈ cutL l, okM m := by
  intro m hm
  unfold cutL at hm
  obtain ⟨e, _, rfl⟩ := List.mem_map.1 hm
  have := andN_le e.st 1 (by decide)
  exact ⟨rfl, rfl, by show (0 : Int) ≤ ((andN e.st 1 : Nat) : Int); omega, by show ((andN e.st 1 : Nat) : Int) < 2; omega⟩
theorem cutL_len {l : List Msg} : (cutL l).length = min 20 l.length := by unfold cutL; rw [List.length_map, List.length_take]
theorem cutI_len {l : List Msg} {i : Nat} (h : i ≤ min 20 l.length) : ((l.take i).map cutM).length = i := by
  rw [List.length_map, List.length_take]; omega
theorem cut_step {l : List Msg} {i : Nat} (h : i < l.length) : (l.take (i + 1)).map cutM = (l.take i).map cutM ++ [cutM (l.getD i dMsg)] := by
  rw [take_succ_getD (d := dMsg) h, List.map_append]; rfl
def sameM (x y : Msg) : Prop := x.st = y.st ∧ x.loose = y.loose ∧ x.data = y.data
instance (x y : Msg) : Decidable (sameM x y) := by unfold sameM; infer_instance
theorem same_ok {x y : Msg} (hx : okM x) (hy : okM y) : decide (sameM x y) = decide (x = y) := by
  obtain ⟨a, b, c, d, e⟩ := x
  obtain ⟨a', b', c', d', e'⟩ := y
  obtain ⟨h1, h2, _⟩ := hx
  obtain ⟨k1, k2, _⟩ := hy
  dsimp only at h1 h2 k1 k2
  subst h1 h2 k1 k2
  exact decide_eq_decide.2 ⟨fun ⟨p, q, r⟩ => by dsimp only at p q r; subst p q r; rfl, fun h => by cases h; exact ⟨rfl, rfl, rfl⟩⟩
def ofP (b : Bool) (s : Int) (m : Msg) : Bool := (m.loose == b) && (b || decide (m.st = s))
theorem ofP_t {s : Int} {m : Msg} (h1 : ¬ m.loose = true) (h2 : m.st = s) : ofP false s m = true := by unfold ofP; simp [h1, h2]
theorem ofP_f1 {s : Int} {m : Msg} (h1 : m.loose = true) : ofP false s m = false := by unfold ofP; simp [h1]
theorem ofP_f2 {s : Int} {m : Msg} (h1 : m.st ≠ s) : ofP false s m = false := by unfold ofP; simp [h1]
theorem ofP_o {s : Int} {m : Msg} (h : ofP false s m = true) : m.loose = false ∧ m.st = s := by unfold ofP at h; simpa using h
abbrev fS (s : Nat) (l : List Msg) : List Msg := l.filter (ofP false ((s : Nat) : Int))
abbrev fL (l : List Msg) : List Msg := l.filter (ofP true 0)
def okB (la lb : List Msg) (s : Nat) : Bool := (fS s lb).isPrefixOf (fS s la)
def orderB (la lb : List Msg) : Bool := okB la lb 0 && okB la lb 1
theorem fl_yes {p : Msg → Bool} {l : List Msg} {i : Nat} (h : i < l.length) (hp : p (l.getD i dMsg) = true) : (l.take (i + 1)).filter p = (l.take i).filter p ++ [l.getD i dMsg] := by
  rw [take_succ_getD (d := dMsg) h, List.filter_append, List.filter_cons, if_pos hp]; rfl
theorem fl_no {p : Msg → Bool} {l : List Msg} {i : Nat} (h : i < l.length) (hp : ¬ p (l.getD i dMsg) = true) : (l.take (i + 1)).filter p = (l.take i).filter p := by
  rw [take_succ_getD (d := dMsg) h, List.filter_append, List.filter_cons, if_neg hp]; exact List.append_nil _
theorem fS_no {s i : Nat} {l : List Msg} (h : i < l.length) (hp : ofP false ((s : Nat) : Int) (l.getD i dMsg) = false) : fS s (l.take (i + 1)) = fS s (l.take i) := fl_no h (by rw [hp]; decide)
theorem fS_yes {s i : Nat} {l : List Msg} (h : i < l.length) (hp : ofP false ((s : Nat) : Int) (l.getD i dMsg) = true) : fS s (l.take (i + 1)) = fS s (l.take i) ++ [l.getD i dMsg] := fl_yes h hp
theorem fS_split {s i : Nat} {l : List Msg} (h : i < l.length) (hp : ofP false ((s : Nat) : Int) (l.getD i dMsg) = true) : fS s l = fS s (l.take i) ++ (l.getD i dMsg) :: fS s (l.drop (i + 1)) := by
  have e : fS s l = fS s (l.take (i + 1)) ++ fS s (l.drop (i + 1)) := by unfold fS; rw [← List.filter_append, List.take_append_drop]
  rw [e, fS_yes h hp, List.append_assoc]; rfl
theorem okB_iff {la lb : List Msg} {s : Nat} : okB la lb s = true ↔ fS s lb <+: fS s la := List.isPrefixOf_iff_prefix
theorem ord_yes {la lb : List Msg} {s a i : Nat} (hE : fS s (la.take a) = fS s (lb.take i)) (hi : lb.length ≤ i) : okB la lb s = true := by
  rw [List.take_of_length_le hi] at hE
  refine okB_iff.2 ⟨fS s (la.drop a), ?_⟩
  rw [← hE]; unfold fS; rw [← List.filter_append, List.take_append_drop]
theorem ord_no1 {la lb : List Msg} {s a i : Nat} (hE : fS s (la.take a) = fS s (lb.take i)) (ha : la.length ≤ a) (hi : i < lb.length) (hp : ofP false ((s : Nat) : Int) (lb.getD i dMsg) = true) : okB la lb s = false := by
  rw [List.take_of_length_le ha] at hE
  refine Bool.eq_false_iff.2 (fun h => ?_)
  have h1 := (okB_iff.1 h).length_le
  rw [hE, fS_split hi hp, List.length_append, List.length_cons] at h1
  omega
theorem ord_no2 {la lb : List Msg} {s a i : Nat} (hE : fS s (la.take a) = fS s (lb.take i)) (ha : a < la.length) (hpa : ofP false ((s : Nat) : Int) (la.getD a dMsg) = true) (hi : i < lb.length) (hp : ofP false ((s : Nat) : Int) (lb.getD i dMsg) = true) (hne : ¬ (la.getD a dMsg).data = (lb.getD i dMsg).data) : okB la lb s = false := by
  refine Bool.eq_false_iff.2 (fun h => ?_)
  have h1 := okB_iff.1 h
  rw [fS_split hi hp, fS_split ha hpa, hE, List.prefix_append_right_inj, List.cons_prefix_cons] at h1
  exact hne (by rw [h1.1])
theorem ord_match {la lb : List Msg} {s a i : Nat} (hE : fS s (la.take a) = fS s (lb.take i)) (hka : ∀ m ∈ la, okM m) (hkb : ∀ m ∈ lb, okM m) (ha : a < la.length) (hpa : ofP false ((s : Nat) : Int) (la.getD a dMsg) = true) (hi : i < lb.length) (hp : ofP false ((s : Nat) : Int) (lb.getD i dMsg) = true) (he : (la.getD a dMsg).data = (lb.getD i dMsg).data) : fS s (la.take (a + 1)) = fS s (lb.take (i + 1)) := by
  have e : la.getD a dMsg = lb.getD i dMsg := by
    have h1 := ofP_o hp
    have h2 := ofP_o hpa
    exact of_decide_eq_true ((same_ok (hka _ (getD_mem ha)) (hkb _ (getD_mem hi))).symm.trans (decide_eq_true ⟨by rw [h1.2, h2.2], by rw [h1.1, h2.1], he⟩))
  rw [fS_yes ha hpa, fS_yes hi hp, hE, e]
theorem ord_false {la lb : List Msg} {s : Nat} (hs : s < 2) (h : okB la lb s = false) : orderB la lb = false := by
  unfold orderB
  rcases (show s = 0 ∨ s = 1 by omega) with rfl | rfl
  · rw [h]; rfl
  · rw [h, Bool.and_false]
theorem ord_true {la lb : List Msg} {s : Nat} (hs : 2 ≤ s) (h : ∀ t, t < s → okB la lb t = true) : orderB la lb = true := by
  unfold orderB; rw [h 0 (by omega), h 1 (by omega)]; rfl
theorem ord_all {la lb : List Msg} {s : Nat} (h : ∀ t, t < s → okB la lb t = true) (h1 : okB la lb s = true) : ∀ t, t < s + 1 → okB la lb t = true := by
  intro t ht
  rcases Nat.lt_or_ge t s with h2 | h2
  · exact h t h2
  · rw [show t = s by omega]; exact h1
def fitB (la lb : List Msg) (m : Msg) : Bool := !m.loose || decide (lb.count m ≤ la.count m)
def looseB (la lb : List Msg) : Bool := lb.all (fitB la lb)
theorem cnt_succ {l : List Msg} {k : Nat} {m : Msg} (h : k < l.length) : (l.take (k + 1)).count m = (l.take k).count m + (if l.getD k dMsg = m then 1 else 0) := by
  rw [take_succ_getD (d := dMsg) h, List.count_append, List.count_singleton]
  simp only [beq_iff_eq]
theorem cnt_yes {l : List Msg} {k a : Nat} {m : Msg} (h : k < l.length) (ha : (l.take k).count m = a) (he : l.getD k dMsg = m) : (l.take (k + 1)).count m = a + 1 := by rw [cnt_succ h, ha, if_pos he]
theorem cnt_no {l : List Msg} {k a : Nat} {m : Msg} (h : k < l.length) (ha : (l.take k).count m = a) (he : ¬ l.getD k dMsg = m) : (l.take (k + 1)).count m = a := by rw [cnt_succ h, ha, if_neg he, Nat.add_zero]
theorem cnt_all {l : List Msg} {k a : Nat} {m : Msg} (h : l.length ≤ k) (ha : (l.take k).count m = a) : l.count m = a := by rw [List.take_of_length_le h] at ha; exact ha
theorem all_succ {f : Msg → Bool} {l : List Msg} {i : Nat} (h : i < l.length) (h1 : (l.take i).all f = true) (h2 : f (l.getD i dMsg) = true) : (l.take (i + 1)).all f = true := by
  rw [take_succ_getD (d := dMsg) h, List.all_append, h1, List.all_cons, h2]; rfl
theorem str_ne {a b : ByteArray} (h : ¬ a = b) : (a == b) = false := by
  refine Bool.eq_false_iff.2 (fun hh => h ?_)
  have h1 : (a.data == b.data) = true := by first | exact hh | (cases a; cases b; exact hh)
  exact ByteArray.ext (eq_of_beq h1)
theorem aeqM (x y : Msg) : aeq env Op.maxDepth 117 (.agg ⟨cMsg x⟩) (.agg ⟨cMsg y⟩) = some (decide (x = y)) := by
  have h : aeq env Op.maxDepth 117 (.agg ⟨cMsg x⟩) (.agg ⟨cMsg y⟩) = (match (x.st == y.st) with | true => (match (x.ssn == y.ssn) with | true => (match (x.loose == y.loose) with | true => (match (((x.proto.toNat : Nat) : Int) == ((y.proto.toNat : Nat) : Int)) with | true => (match (x.data == y.data) with | true => some true | false => some false) | false => some false) | false => some false) | false => some false) | false => some false) := by kernel_rfl
  rw [h]
  obtain ⟨a, b, c, d, e⟩ := x
  obtain ⟨a', b', c', d', e'⟩ := y
  by_cases h1 : a = a'
  · subst h1
    by_cases h2 : b = b'
    · subst h2
      by_cases h3 : c = c'
      · subst h3
        by_cases h4 : d = d'
        · subst h4
          by_cases h5 : e = e'
          · subst h5; simp [str_self]
          · have e5 : (e == e') = false := str_ne h5
            simp [e5, h5]
        · have e4 : ((((d.toNat : Nat) : Int) == ((d'.toNat : Nat) : Int)) = false) := by
            simp only [beq_eq_false_iff_ne, ne_eq]; intro hh; exact h4 (BitVec.eq_of_toNat_eq (by omega))
          simp [e4, h4]
      · have e3 : (c == c') = false := by simp [h3]
        simp [e3, h3]
    · have e2 : (b == b') = false := by simp [h2]
      simp [e2, h2]
  · have e1 : (a == a') = false := by simp [h1]
    simp [e1, h1]
abbrev xMh11 (l : List Msg) (i : Nat) : List Value := [(.int .i64 (((andN (l.getD i dMsg).st 1) : Nat) : Int)), (.int .i64 0), (.bool (l.getD i dMsg).loose), (.int .u32 0), (.string ((l.getD i dMsg).data.extract 0 (min (l.getD i dMsg).data.size 2)))]
abbrev xMh12 (la : List Msg) (i : Nat) : List Value := [(.int .i64 (la.getD i dMsg).st), (.int .i64 (la.getD i dMsg).ssn), (.bool (la.getD i dMsg).loose), (W (la.getD i dMsg).proto), (.string (la.getD i dMsg).data)]
abbrev xMh13 (lb : List Msg) (i : Nat) : List Value := [(.int .i64 (lb.getD i dMsg).st), (.int .i64 (lb.getD i dMsg).ssn), (.bool (lb.getD i dMsg).loose), (W (lb.getD i dMsg).proto), (.string (lb.getD i dMsg).data)]
abbrev xMh14 (l : List Msg) (i : Nat) : List Value := [(.int .i64 (l.getD i dMsg).st), (.int .i64 (l.getD i dMsg).ssn), (.bool (l.getD i dMsg).loose), (W (l.getD i dMsg).proto), (.string (l.getD i dMsg).data)]
abbrev xMh15 (l : List Msg) (i : Nat) : Msg := (Msg.mk (((andN (l.getD i dMsg).st 1) : Nat) : Int) 0 ((l.getD i dMsg).loose) (0#32) ((l.getD i dMsg).data.extract 0 (min (l.getD i dMsg).data.size 2)))
theorem mCut {n : Nat} {σ : Store} (hd : Dom n σ) (hn0 : 0 < n) (v : Value) (l : List Msg) (hv : RowP σ 117 5 v (l.map cMsg))   : CQ Try.prog noDen 33 [v] n σ (fun v n' d => ∃ i, n ≤ i ∧ i < n' ∧ v = .slice (some ⟨i, 0, none⟩) (min 20 l.length) 2 ∧ d = [(i, some (oMsg (cutL l)))]) := by
 have rlv := hv.lt hd hn0
 refine CQ.body (E := env) env_ok hd rfl rfl (by show _ ≤ _; exact of_decide_eq_true (by kernel_rfl)) ?_
 refine RA.seq hd ?_
 refine RA.region env_ok ?_
 refine OA.p (some 2) (.slice none 0 0) rfl rfl rfl rfl ?_
 refine OA.nil ?_
 intro _
 refine RA.seq hd ?_
 refine RA.region env_ok ?_
 refine OA.op1 (dst := (some 5)) (v := (.slice (some ⟨n, 0, none⟩) 0 0)) (n1 := (n + 1)) (w := (n, some (oMsg ([] : List Msg)))) rfl rfl rfl (by kernel_rfl) (by omega) ?_
 refine OA.p (some 3) (.slice (some ⟨n, 0, none⟩) 0 0) rfl rfl rfl rfl ?_
 refine OA.nil ?_
 intro _
 refine RA.seq hd ?_
 refine RA.seq hd ?_
 refine RA.region env_ok ?_
 refine OA.p (some 4) (.int .i64 0) rfl rfl rfl rfl ?_
 refine OA.nil ?_
 intro _
 refine RA.block ?_
 refine RA.leT (t := 3) (v := (.slice (some ⟨n, 0, none⟩) 0 0)) (v' := (.slice (some ⟨n, 0, none⟩) 0 2)) rfl (vle_row _ _ _) ?_
 refine RA.loop hd (fun kk_ τ n' D => (∃ i : Nat, ∃ ko : Nat, kk_ = min 20 l.length - i ∧ (n + 1) ≤ n' ∧ Has τ [(0, v), (3, (.slice (some ⟨ko, 0, none⟩) i 2)), (4, (.int .i64 ((i : Nat) : Int)))] ∧ D = [(ko, some (oMsg ((l.take i).map cutM)))] ∧ (∀ i ∈ keys D, i < n') ∧ i ≤ min 20 l.length ∧ n ≤ ko)) (min 20 l.length - 0) (⟨0, n, rfl, by omega, ⟨rfl, rfl, rfl, trivial⟩, (by rfl), (kb1 (by omega)), ⟨by omega, by omega⟩⟩) ?_
 rintro kn1 τ1 n1 _ ⟨i, ko, rfl, hn1, hHn1, rfl, hKn1, hIn1⟩
 rw [Has.eq hHn1]
 have hKn1_0 : ko < n1 := hKn1 _ (by simp only [keys, List.map_cons, List.map_nil, List.mem_cons, true_or, or_true])
 clear hKn1
 obtain ⟨hi1, hi2⟩ := hIn1
 refine RA.seq hd ?_
 refine RA.seq hd ?_
 refine RA.region env_ok ?_
 refine OA.p (some 6) (.int .i64 ((i : Nat) : Int)) rfl rfl rfl rfl ?_
 refine OA.p (some 7) v rfl rfl rfl rfl ?_
 refine OA.p (some 8) (.int .i64 ((l.length : Nat) : Int)) rfl rfl rfl (r_lenP (c := cMsg) rfl rfl rfl rfl rfl rfl hv rfl) ?_
 by_cases hc1 : ((i : Nat) : Int) < ((l.length : Nat) : Int)
 ·
  obtain ⟨rest, hat⟩ := hv.get (m := i) (by omega)
  have lathat := hd.lt hat
  refine OA.p (some 9) (.bool true) rfl rfl rfl (Eq.trans (r_bin rfl rfl rfl (b_lss rfl)) (dT hc1)) ?_
  refine OA.p (some 10) (.bool true) rfl rfl rfl rfl ?_
  refine OA.p (some 11) (.int .i64 ((i : Nat) : Int)) rfl rfl rfl rfl ?_
  by_cases hc2 : ((i : Nat) : Int) < 20
  ·
   refine OA.p (some 12) (.bool true) rfl rfl rfl (Eq.trans (r_bin rfl rfl rfl (b_lss rfl)) (dT hc2)) ?_
   refine OA.p (some 13) (.bool true) rfl rfl rfl rfl ?_
   refine OA.nil ?_
   intro _
   refine RA.condT rfl ?_
   refine RA.skip env_ok ?_
   intro _
   refine RA.seq hd ?_
   refine RA.block ?_
   refine RA.par (md := [some [], some [], some [], none, some [], none, some [], some [], some [], none, some [], none, some [], some [], none, some [], none, some [], some [], none, some [], none, some [], some [], some [], some [], some [], none, some []]) env_ok (hd.of (by omega) (kb1 (by omega))) (by kernel_rfl) ?_
   refine PQ.pure (dst := (some 16)) (v := (.slice (some ⟨ko, 0, none⟩) i 2)) rfl rfl rfl noStore (none_ok _ _) rfl ?_
   refine PQ.pure (dst := (some 17)) (v := v) rfl rfl rfl noStore (none_ok _ _) rfl ?_
   refine PQ.pure (dst := (some 18)) (v := (.int .i64 ((i : Nat) : Int))) rfl rfl rfl noStore (none_ok _ _) rfl ?_
   refine PQ.pure (dst := (some 19)) (v := (.pointer (some ⟨(rk v), i, some 0⟩))) rfl rfl rfl _ (seen_any (V := []) (D := [(ko, some (oMsg ((l.take i).map cutM)))]) (by kernel_rfl)) (r_iaP (c := cMsg) (m := i) rfl rfl rfl rfl rfl rfl hv rfl (by omega) (get_there (by omega) hat) rfl) ?_
   refine PQ.pure (dst := (some 20)) (v := (.pointer (some ⟨(rk v), i, some 0⟩))) rfl rfl rfl noStore (none_ok _ _) rfl ?_
   refine PQ.pure (dst := (some 21)) (v := (.int .i64 (l.getD i dMsg).st)) rfl rfl rfl _ (seen_any (V := []) (D := [(ko, some (oMsg ((l.take i).map cutM)))]) (by kernel_rfl)) (r_load1 (e := cMsg (l.getD i dMsg)) rfl rfl rfl rfl rfl (get_there (by omega) hat) (mp_getA (by omega)) rfl) ?_
   have hm2 := andN_le (l.getD i dMsg).st 1 (by decide)
   refine PQ.pure (dst := (some 22)) (v := (.int .i64 (((andN (l.getD i dMsg).st 1) : Nat) : Int))) rfl rfl rfl noStore (none_ok _ _) (r_bin rfl rfl rfl (b_andN (l.getD i dMsg).st 1 (by decide))) ?_
   refine PQ.pure (dst := (some 23)) (v := v) rfl rfl rfl noStore (none_ok _ _) rfl ?_
   refine PQ.pure (dst := (some 24)) (v := (.int .i64 ((i : Nat) : Int))) rfl rfl rfl noStore (none_ok _ _) rfl ?_
   refine PQ.pure (dst := (some 25)) (v := (.pointer (some ⟨(rk v), i, some 0⟩))) rfl rfl rfl _ (seen_any (V := []) (D := [(ko, some (oMsg ((l.take i).map cutM)))]) (by kernel_rfl)) (r_iaP (c := cMsg) (m := i) rfl rfl rfl rfl rfl rfl hv rfl (by omega) (get_there (by omega) hat) rfl) ?_
   refine PQ.pure (dst := (some 26)) (v := (.pointer (some ⟨(rk v), i, some 2⟩))) rfl rfl rfl noStore (none_ok _ _) rfl ?_
   refine PQ.pure (dst := (some 27)) (v := (.bool (l.getD i dMsg).loose)) rfl rfl rfl _ (seen_any (V := []) (D := [(ko, some (oMsg ((l.take i).map cutM)))]) (by kernel_rfl)) (r_load1 (e := cMsg (l.getD i dMsg)) rfl rfl rfl rfl rfl (get_there (by omega) hat) (mp_getA (by omega)) rfl) ?_
   refine PQ.pure (dst := (some 28)) (v := v) rfl rfl rfl noStore (none_ok _ _) rfl ?_
   refine PQ.pure (dst := (some 29)) (v := (.int .i64 ((i : Nat) : Int))) rfl rfl rfl noStore (none_ok _ _) rfl ?_
   refine PQ.pure (dst := (some 30)) (v := (.pointer (some ⟨(rk v), i, some 0⟩))) rfl rfl rfl _ (seen_any (V := []) (D := [(ko, some (oMsg ((l.take i).map cutM)))]) (by kernel_rfl)) (r_iaP (c := cMsg) (m := i) rfl rfl rfl rfl rfl rfl hv rfl (by omega) (get_there (by omega) hat) rfl) ?_
   refine PQ.pure (dst := (some 31)) (v := (.pointer (some ⟨(rk v), i, some 4⟩))) rfl rfl rfl noStore (none_ok _ _) rfl ?_
   refine PQ.pure (dst := (some 32)) (v := (.string (l.getD i dMsg).data)) rfl rfl rfl _ (seen_any (V := []) (D := [(ko, some (oMsg ((l.take i).map cutM)))]) (by kernel_rfl)) (r_load1 (e := cMsg (l.getD i dMsg)) rfl rfl rfl rfl rfl (get_there (by omega) hat) (mp_getA (by omega)) rfl) ?_
   refine PQ.pure (dst := (some 33)) (v := v) rfl rfl rfl noStore (none_ok _ _) rfl ?_
   refine PQ.pure (dst := (some 34)) (v := (.int .i64 ((i : Nat) : Int))) rfl rfl rfl noStore (none_ok _ _) rfl ?_
   refine PQ.pure (dst := (some 35)) (v := (.pointer (some ⟨(rk v), i, some 0⟩))) rfl rfl rfl _ (seen_any (V := []) (D := [(ko, some (oMsg ((l.take i).map cutM)))]) (by kernel_rfl)) (r_iaP (c := cMsg) (m := i) rfl rfl rfl rfl rfl rfl hv rfl (by omega) (get_there (by omega) hat) rfl) ?_
   refine PQ.pure (dst := (some 36)) (v := (.pointer (some ⟨(rk v), i, some 4⟩))) rfl rfl rfl noStore (none_ok _ _) rfl ?_
   refine PQ.pure (dst := (some 37)) (v := (.string (l.getD i dMsg).data)) rfl rfl rfl _ (seen_any (V := []) (D := [(ko, some (oMsg ((l.take i).map cutM)))]) (by kernel_rfl)) (r_load1 (e := cMsg (l.getD i dMsg)) rfl rfl rfl rfl rfl (get_there (by omega) hat) (mp_getA (by omega)) rfl) ?_
   refine PQ.pure (dst := (some 38)) (v := (.int .i64 (((l.getD i dMsg).data.size : Nat) : Int))) rfl rfl rfl noStore (none_ok _ _) rfl ?_
   refine PQ.pure (dst := (some 39)) (v := (.int .i64 (((min (l.getD i dMsg).data.size 2) : Nat) : Int))) rfl rfl rfl noStore (none_ok _ _) (r_min (a := (l.getD i dMsg).data.size) (b := 2) rfl rfl rfl) ?_
   refine PQ.pure (dst := (some 40)) (v := (.string ((l.getD i dMsg).data.extract 0 (min (l.getD i dMsg).data.size 2)))) rfl rfl rfl noStore (none_ok _ _) (r_cut (a := 0) (b := (min (l.getD i dMsg).data.size 2)) rfl rfl (fun _ => rfl) (fun _ => rfl) rfl rfl rfl bound_nat (by omega) (by omega) rfl) ?_
   refine PQ.pure (dst := (some 41)) (v := (.agg ⟨(xMh11 l i)⟩)) rfl rfl rfl noStore (none_ok _ _) (by kernel_rfl) ?_
   refine PQ.op (dst := (some 42)) (v := (.slice (some ⟨n1, 0, none⟩) 1 0)) (n1 := (n1 + 1)) (d1 := [(n1, some ⟨[(xMh11 l i)], 5, 117, true⟩)]) rfl rfl rfl noStore (none_ok _ _) (by kernel_rfl) (by omega) (kp1 (wr_new (by omega) (by omega))) ?_
   refine PQ.op (dst := (some 43)) (v := (.slice (some ⟨(n1 + 1), 0, none⟩) (i + 1) 2)) (n1 := (n1 + 2)) (d1 := [((n1 + 1), some (oMsg (((l.take i).map cutM) ++ [(xMh15 l i)]))), (ko, none)]) rfl rfl rfl _ (seen_any (V := [(n1, some ⟨[(xMh11 l i)], 5, 117, true⟩)]) (D := [(ko, some (oMsg ((l.take i).map cutM)))]) (by kernel_rfl)) (r_append2x (c := cMsg) (x := (xMh15 l i)) (l' := (((l.take i).map cutM) ++ [(xMh15 l i)])) rfl rfl rfl rfl rfl rfl rfl rfl rfl rfl (by decide) (get_there (by omega) get_here) get_here (by rw [(cutI_len hi1)]; omega) (by rw [take_all' (by rw [(cutI_len hi1)])]) (by omega) (of_decide_eq_true (by kernel_rfl)) (by omega)) (by omega) (kp2 (wr_new (by omega) (by omega)) (wr_tight (by kernel_rfl) (by omega))) ?_
   refine PQ.pure (dst := (some 3)) (v := (.slice (some ⟨(n1 + 1), 0, none⟩) (i + 1) 2)) rfl rfl rfl noStore (none_ok _ _) rfl ?_
   refine PQ.done (d := [((n1 + 1), some (oMsg (((l.take i).map cutM) ++ [(xMh15 l i)]))), (ko, none), (n1, some ⟨[(xMh11 l i)], 5, 117, true⟩)]) (by kernel_rfl) ?_
   intro _
   refine RA.rebase [(0, v), (3, (.slice (some ⟨(n1 + 1), 0, none⟩) (i + 1) 2)), (4, (.int .i64 ((i : Nat) : Int))), (13, (.bool true))] ⟨rfl, rfl, rfl, rfl, trivial⟩ (fun τr3 => ?_)
   refine RA.region env_ok ?_
   refine OA.p (some 14) (.int .i64 ((i : Nat) : Int)) rfl rfl rfl rfl ?_
   refine OA.p (some 15) (.int .i64 (((i + 1) : Nat) : Int)) rfl rfl rfl (r_bin rfl rfl rfl (b_add (i64_eq (by omega)))) ?_
   refine OA.p (some 4) (.int .i64 (((i + 1) : Nat) : Int)) rfl rfl rfl rfl ?_
   refine OA.nil ?_
   refine ⟨min 20 l.length - (i + 1), by omega, [((n1 + 1), some (oMsg (((l.take i).map cutM) ++ [(xMh15 l i)])))], (Less.of (fac (mm (fun _ => get_here) (fun _ => get_here)) fan) (gone_of (by simp only [goneP, memP, List.cons_append, List.nil_append, true_or, or_true, true_and, and_true, or_false] <;> omega))), ⟨(i + 1), (n1 + 1), rfl, by omega, ⟨rfl, rfl, rfl, trivial⟩, (by rw [cut_step (by omega)]; rfl), (kb1 (by omega)), ⟨by omega, by omega⟩⟩⟩
  ·
   refine OA.p (some 12) (.bool false) rfl rfl rfl (Eq.trans (r_bin rfl rfl rfl (b_lss rfl)) (dF hc2)) ?_
   refine OA.p (some 13) (.bool false) rfl rfl rfl rfl ?_
   refine OA.nil ?_
   intro _
   refine RA.condF rfl ?_
   refine RA.exit env_ok ?_
   intro _
   refine RA.seq hd ?_
   refine RA.region env_ok ?_
   refine OA.p (some 44) (.slice (some ⟨ko, 0, none⟩) i 2) rfl rfl rfl rfl ?_
   refine OA.p (some 2) (.slice (some ⟨ko, 0, none⟩) i 2) rfl rfl rfl rfl ?_
   refine OA.nil ?_
   intro _
   refine RA.ret env_ok ?_
   refine ⟨.inr rfl, [(.slice (some ⟨ko, 0, none⟩) i 2)], (resL_cons rfl resL_nil), [(ko, some (oMsg ((l.take i).map cutM)))], (Less.refl _ _ _), ⟨ko, by omega, by omega, by rw [show min 20 l.length = i from by omega]; rfl, by rw [show cutL l = (l.take i).map cutM from by unfold cutL; rw [show l.take i = l.take 20 from by rw [List.take_eq_take_iff]; omega]]⟩⟩
 ·
  refine OA.p (some 9) (.bool false) rfl rfl rfl (Eq.trans (r_bin rfl rfl rfl (b_lss rfl)) (dF hc1)) ?_
  refine OA.p (some 10) (.bool false) rfl rfl rfl rfl ?_
  refine OA.off (dst := (some 11)) rfl rfl rfl ?_
  refine OA.off (dst := (some 12)) rfl rfl rfl ?_
  refine OA.p (some 13) (.bool false) rfl rfl rfl rfl ?_
  refine OA.nil ?_
  intro _
  refine RA.condF rfl ?_
  refine RA.exit env_ok ?_
  intro _
  refine RA.seq hd ?_
  refine RA.region env_ok ?_
  refine OA.p (some 44) (.slice (some ⟨ko, 0, none⟩) i 2) rfl rfl rfl rfl ?_
  refine OA.p (some 2) (.slice (some ⟨ko, 0, none⟩) i 2) rfl rfl rfl rfl ?_
  refine OA.nil ?_
  intro _
  refine RA.ret env_ok ?_
  refine ⟨.inr rfl, [(.slice (some ⟨ko, 0, none⟩) i 2)], (resL_cons rfl resL_nil), [(ko, some (oMsg ((l.take i).map cutM)))], (Less.refl _ _ _), ⟨ko, by omega, by omega, by rw [show min 20 l.length = i from by omega]; rfl, by rw [show cutL l = (l.take i).map cutM from by unfold cutL; rw [show l.take i = l.take 20 from by rw [List.take_eq_take_iff]; omega]]⟩⟩

theorem mSame0 {σ : Store} (x y : Msg)   : PS Try.prog noDen 77 [(.agg ⟨(cMsg x)⟩), (.agg ⟨(cMsg y)⟩)] σ (.bool (decide (sameM x y))) := by
 refine PS.body (E := env) env_ok rfl rfl (by show _ ≤ _; exact of_decide_eq_true (by kernel_rfl)) (fun n hd => ?_)
 refine RA.seq hd ?_
 refine RA.region env_ok ?_
 refine OA.op1 (dst := (some 2)) (v := (Pt n 0 0)) (n1 := (n + 1)) (w := (n, some ⟨[(cMsg x)], 5, 117, true⟩)) rfl rfl rfl rfl (by omega) ?_
 refine OA.op1 (dst := (some 3)) (v := (.pointer (some ⟨(n + 1), 0, some 0⟩))) (n1 := (n + 2)) (w := ((n + 1), some ⟨[(cMsg y)], 5, 117, true⟩)) rfl rfl rfl rfl (by omega) ?_
 refine OA.p (some 4) (.bool false) rfl rfl rfl rfl ?_
 refine OA.nil ?_
 intro _
 refine RA.seq hd ?_
 refine RA.region env_ok ?_
 refine OA.p (some 5) (Pt n 0 0) rfl rfl rfl rfl ?_
 refine OA.p (some 6) (.int .i64 x.st) rfl rfl rfl (r_load1 rfl rfl rfl rfl rfl (get_there (by omega) get_here) rfl rfl) ?_
 refine OA.p (some 7) (.pointer (some ⟨(n + 1), 0, some 0⟩)) rfl rfl rfl rfl ?_
 refine OA.p (some 8) (.int .i64 y.st) rfl rfl rfl (r_load1 rfl rfl rfl rfl rfl get_here rfl rfl) ?_
 by_cases hc1 : x.st = y.st
 ·
  refine OA.p (some 9) (.bool true) rfl rfl rfl (Eq.trans (r_bin rfl rfl rfl (b_eql rfl)) (dT hc1)) ?_
  refine OA.p (some 10) (.bool true) rfl rfl rfl rfl ?_
  refine OA.p (some 11) (Pt n 0 2) rfl rfl rfl rfl ?_
  by_cases hc2 : x.loose = true
  ·
   refine OA.p (some 12) (.bool true) rfl rfl rfl (Eq.trans (r_load1 rfl rfl rfl rfl rfl (get_there (by omega) get_here) rfl rfl) (bT hc2)) ?_
   refine OA.p (some 13) (.pointer (some ⟨(n + 1), 0, some 2⟩)) rfl rfl rfl rfl ?_
   by_cases hc3 : y.loose = true
   ·
    refine OA.p (some 14) (.bool true) rfl rfl rfl (Eq.trans (r_load1 rfl rfl rfl rfl rfl get_here rfl rfl) (bT hc3)) ?_
    refine OA.p (some 15) (.bool true) rfl rfl rfl rfl ?_
    refine OA.p (some 16) (.bool true) rfl rfl rfl rfl ?_
    refine OA.p (some 17) (.bool true) rfl rfl rfl rfl ?_
    refine OA.p (some 18) (Pt n 0 4) rfl rfl rfl rfl ?_
    refine OA.p (some 19) (.string x.data) rfl rfl rfl (r_load1 rfl rfl rfl rfl rfl (get_there (by omega) get_here) rfl rfl) ?_
    refine OA.p (some 20) (.pointer (some ⟨(n + 1), 0, some 4⟩)) rfl rfl rfl rfl ?_
    refine OA.p (some 21) (.string y.data) rfl rfl rfl (r_load1 rfl rfl rfl rfl rfl get_here rfl rfl) ?_
    refine OA.p (some 22) (.bool (decide (x.data = y.data))) rfl rfl rfl (r_eqlS rfl rfl rfl) ?_
    refine OA.p (some 23) (.bool (decide (x.data = y.data))) rfl rfl rfl rfl ?_
    refine OA.p (some 4) (.bool (decide (x.data = y.data))) rfl rfl rfl rfl ?_
    refine OA.nil ?_
    intro _
    refine RA.ret env_ok ?_
    refine ⟨.inr rfl, [(.bool (decide (x.data = y.data)))], (resL_cons rfl resL_nil), (by show Value.bool _ = Value.bool _; unfold sameM; simp_all), (kc2 (by omega))⟩
   ·
    refine OA.p (some 14) (.bool false) rfl rfl rfl (Eq.trans (r_load1 rfl rfl rfl rfl rfl get_here rfl rfl) (bF hc3)) ?_
    refine OA.p (some 15) (.bool false) rfl rfl rfl rfl ?_
    refine OA.p (some 16) (.bool false) rfl rfl rfl rfl ?_
    refine OA.p (some 17) (.bool false) rfl rfl rfl rfl ?_
    refine OA.off (dst := (some 18)) rfl rfl rfl ?_
    refine OA.off (dst := (some 19)) rfl rfl rfl ?_
    refine OA.off (dst := (some 20)) rfl rfl rfl ?_
    refine OA.off (dst := (some 21)) rfl rfl rfl ?_
    refine OA.off (dst := (some 22)) rfl rfl rfl ?_
    refine OA.p (some 23) (.bool false) rfl rfl rfl rfl ?_
    refine OA.p (some 4) (.bool false) rfl rfl rfl rfl ?_
    refine OA.nil ?_
    intro _
    refine RA.ret env_ok ?_
    refine ⟨.inr rfl, [(.bool false)], (resL_cons rfl resL_nil), (by show Value.bool _ = Value.bool _; unfold sameM; simp_all), (kc2 (by omega))⟩
  ·
   refine OA.p (some 12) (.bool false) rfl rfl rfl (Eq.trans (r_load1 rfl rfl rfl rfl rfl (get_there (by omega) get_here) rfl rfl) (bF hc2)) ?_
   refine OA.p (some 13) (.pointer (some ⟨(n + 1), 0, some 2⟩)) rfl rfl rfl rfl ?_
   by_cases hc4 : y.loose = true
   ·
    refine OA.p (some 14) (.bool true) rfl rfl rfl (Eq.trans (r_load1 rfl rfl rfl rfl rfl get_here rfl rfl) (bT hc4)) ?_
    refine OA.p (some 15) (.bool false) rfl rfl rfl rfl ?_
    refine OA.p (some 16) (.bool false) rfl rfl rfl rfl ?_
    refine OA.p (some 17) (.bool false) rfl rfl rfl rfl ?_
    refine OA.off (dst := (some 18)) rfl rfl rfl ?_
    refine OA.off (dst := (some 19)) rfl rfl rfl ?_
    refine OA.off (dst := (some 20)) rfl rfl rfl ?_
    refine OA.off (dst := (some 21)) rfl rfl rfl ?_
    refine OA.off (dst := (some 22)) rfl rfl rfl ?_
    refine OA.p (some 23) (.bool false) rfl rfl rfl rfl ?_
    refine OA.p (some 4) (.bool false) rfl rfl rfl rfl ?_
    refine OA.nil ?_
    intro _
    refine RA.ret env_ok ?_
    refine ⟨.inr rfl, [(.bool false)], (resL_cons rfl resL_nil), (by show Value.bool _ = Value.bool _; unfold sameM; simp_all), (kc2 (by omega))⟩
   ·
    refine OA.p (some 14) (.bool false) rfl rfl rfl (Eq.trans (r_load1 rfl rfl rfl rfl rfl get_here rfl rfl) (bF hc4)) ?_
    refine OA.p (some 15) (.bool true) rfl rfl rfl rfl ?_
    refine OA.p (some 16) (.bool true) rfl rfl rfl rfl ?_
    refine OA.p (some 17) (.bool true) rfl rfl rfl rfl ?_
    refine OA.p (some 18) (Pt n 0 4) rfl rfl rfl rfl ?_
    refine OA.p (some 19) (.string x.data) rfl rfl rfl (r_load1 rfl rfl rfl rfl rfl (get_there (by omega) get_here) rfl rfl) ?_
    refine OA.p (some 20) (.pointer (some ⟨(n + 1), 0, some 4⟩)) rfl rfl rfl rfl ?_
    refine OA.p (some 21) (.string y.data) rfl rfl rfl (r_load1 rfl rfl rfl rfl rfl get_here rfl rfl) ?_
    refine OA.p (some 22) (.bool (decide (x.data = y.data))) rfl rfl rfl (r_eqlS rfl rfl rfl) ?_
    refine OA.p (some 23) (.bool (decide (x.data = y.data))) rfl rfl rfl rfl ?_
    refine OA.p (some 4) (.bool (decide (x.data = y.data))) rfl rfl rfl rfl ?_
    refine OA.nil ?_
    intro _
    refine RA.ret env_ok ?_
    refine ⟨.inr rfl, [(.bool (decide (x.data = y.data)))], (resL_cons rfl resL_nil), (by show Value.bool _ = Value.bool _; unfold sameM; simp_all), (kc2 (by omega))⟩
 ·
  refine OA.p (some 9) (.bool false) rfl rfl rfl (Eq.trans (r_bin rfl rfl rfl (b_eql rfl)) (dF hc1)) ?_
  refine OA.p (some 10) (.bool false) rfl rfl rfl rfl ?_
  refine OA.off (dst := (some 11)) rfl rfl rfl ?_
  refine OA.off (dst := (some 12)) rfl rfl rfl ?_
  refine OA.off (dst := (some 13)) rfl rfl rfl ?_
  refine OA.off (dst := (some 14)) rfl rfl rfl ?_
  refine OA.off (dst := (some 15)) rfl rfl rfl ?_
  refine OA.p (some 16) (.bool false) rfl rfl rfl rfl ?_
  refine OA.p (some 17) (.bool false) rfl rfl rfl rfl ?_
  refine OA.off (dst := (some 18)) rfl rfl rfl ?_
  refine OA.off (dst := (some 19)) rfl rfl rfl ?_
  refine OA.off (dst := (some 20)) rfl rfl rfl ?_
  refine OA.off (dst := (some 21)) rfl rfl rfl ?_
  refine OA.off (dst := (some 22)) rfl rfl rfl ?_
  refine OA.p (some 23) (.bool false) rfl rfl rfl rfl ?_
  refine OA.p (some 4) (.bool false) rfl rfl rfl rfl ?_
  refine OA.nil ?_
  intro _
  refine RA.ret env_ok ?_
  refine ⟨.inr rfl, [(.bool false)], (resL_cons rfl resL_nil), (by show Value.bool _ = Value.bool _; unfold sameM; simp_all), (kc2 (by omega))⟩

theorem mSame {σ : Store} (x y : Msg) (hx : okM x) (hy : okM y) : PS Try.prog noDen 77 [(.agg ⟨(cMsg x)⟩), (.agg ⟨(cMsg y)⟩)] σ (.bool (decide (x = y))) := (mSame0 x y).to (by rw [same_ok hx hy])

theorem mEq {σ : Store} (ja jb NA A B : Nat) (la lb : List Msg) (hla : la.length = NA) (hlb : lb.length = B) (hA : A ≤ NA) (hNA : NA ≤ 100000) (hB : B ≤ 100000) (hka : ∀ m ∈ la, okM m) (hkb : ∀ m ∈ lb, okM m) (hja : σ ja = some (oMsg la)) (hjb : σ jb = some (oMsg lb))  : PS Try.prog noDen 76 [(.slice (some ⟨ja, 0, none⟩) A 2), (.slice (some ⟨jb, 0, none⟩) B 2), (.func (.func 77) ⟨[]⟩ ⟨[]⟩)] σ (.bool (decide (la.take A = lb))) := by
 refine PS.body (E := env) env_ok rfl rfl (by show _ ≤ _; exact of_decide_eq_true (by kernel_rfl)) (fun n hd => ?_)
 have lhja := hd.lt hja
 have lhjb := hd.lt hjb
 refine RA.seq hd ?_
 refine RA.region env_ok ?_
 refine OA.p (some 6) (.bool false) rfl rfl rfl rfl ?_
 refine OA.nil ?_
 intro _
 refine RA.seq hd ?_
 refine RA.seq hd ?_
 refine RA.region env_ok ?_
 refine OA.p (some 10) (.slice (some ⟨ja, 0, none⟩) A 2) rfl rfl rfl rfl ?_
 refine OA.p (some 11) (.int .i64 ((A : Nat) : Int)) rfl rfl rfl rfl ?_
 refine OA.p (some 12) (.slice (some ⟨jb, 0, none⟩) B 2) rfl rfl rfl rfl ?_
 refine OA.p (some 13) (.int .i64 ((B : Nat) : Int)) rfl rfl rfl rfl ?_
 by_cases hc1 : ((A : Nat) : Int) ≠ ((B : Nat) : Int)
 ·
  refine OA.p (some 14) (.bool true) rfl rfl rfl (Eq.trans (r_bin rfl rfl rfl (b_neq rfl)) (dT hc1)) ?_
  refine OA.nil ?_
  intro _
  refine RA.condT rfl ?_
  refine RA.seq hd ?_
  refine RA.region env_ok ?_
  refine OA.p (some 6) (.bool false) rfl rfl rfl rfl ?_
  refine OA.nil ?_
  intro _
  refine RA.ret env_ok ?_
  refine ⟨.inr rfl, [(.bool false)], (resL_cons rfl resL_nil), (congrArg Value.bool (decide_eq_false (fun hh : la.take A = lb => by have h0 := congrArg List.length hh; rw [List.length_take] at h0; omega)).symm), (fun i hi => by cases hi)⟩
 ·
  refine OA.p (some 14) (.bool false) rfl rfl rfl (Eq.trans (r_bin rfl rfl rfl (b_neq rfl)) (dF hc1)) ?_
  refine OA.nil ?_
  intro _
  refine RA.condF rfl ?_
  refine RA.skip env_ok ?_
  intro _
  refine RA.seq hd ?_
  refine RA.seq hd ?_
  refine RA.region env_ok ?_
  refine OA.p (some 15) (.slice (some ⟨ja, 0, none⟩) A 2) rfl rfl rfl rfl ?_
  refine OA.p (some 16) (.int .i64 ((A : Nat) : Int)) rfl rfl rfl rfl ?_
  refine OA.p (some 17) (.int .i64 0) rfl rfl rfl rfl ?_
  refine OA.nil ?_
  intro _
  refine RA.block ?_
  refine RA.loop hd (fun kk_ τ n' D => ∃ i : Nat,  kk_ = (A - i) ∧ n ≤ n' ∧ Has τ [(0, (.slice (some ⟨ja, 0, none⟩) A 2)), (1, (.slice (some ⟨jb, 0, none⟩) B 2)), (2, (.func (.func 77) ⟨[]⟩ ⟨[]⟩)), (15, (.slice (some ⟨ja, 0, none⟩) A 2)), (16, (.int .i64 ((A : Nat) : Int))), (17, (.int .i64 ((i : Nat) : Int)))] ∧ D = [] ∧ (∀ i ∈ keys D, i < n') ∧ i ≤ A ∧ la.take i = lb.take i) ((A - 0)) ⟨0, rfl, by omega, ⟨rfl, rfl, rfl, rfl, rfl, rfl, trivial⟩, rfl, (fun i hi => by cases hi), ⟨by omega, rfl⟩⟩ ?_
  rintro kn1 τ1 n1 _ ⟨i, rfl, hn1, hHn1, rfl, hKn1, hIn1⟩
  rw [Has.eq hHn1]
  simp only [keys, List.map, List.forall_mem_cons, List.mem_cons, List.not_mem_nil, false_imp_iff, implies_true, and_true] at hKn1
  obtain ⟨hi1, hi2⟩ := hIn1
  refine RA.seq hd ?_
  refine RA.region env_ok ?_
  by_cases hc2 : ((i : Nat) : Int) < ((A : Nat) : Int)
  ·
   refine OA.p (some 18) (.bool true) rfl rfl rfl (Eq.trans (r_bin rfl rfl rfl (b_lss rfl)) (dT hc2)) ?_
   refine OA.nil ?_
   intro _
   refine RA.seq hd ?_
   refine RA.condT rfl ?_
   refine RA.skip env_ok ?_
   intro _
   refine RA.seq hd ?_
   refine RA.block ?_
   refine RA.seq hd ?_
   refine RA.region env_ok ?_
   refine OA.p (some 19) (.int .i64 ((i : Nat) : Int)) rfl rfl rfl rfl ?_
   refine OA.p (some 20) (Pt ja i 0) rfl rfl rfl (r_iaS (l := i) rfl rfl rfl rfl rfl rfl (by omega) (by omega) hja rfl (by omega)) ?_
   refine OA.p (some 21) (.agg ⟨(cMsg (la.getD i dMsg))⟩) rfl rfl rfl (r_loadR (c := cMsg) dMsg rfl rfl rfl rfl hja (by rw [hla]; omega) rfl) ?_
   refine OA.op1 (dst := (some 8)) (v := (Pt n1 0 0)) (n1 := (n1 + 1)) (w := (n1, some ⟨[[(.int .i64 0), (.int .i64 0), (.bool false), (.int .u32 0), (.string ByteArray.empty)]], 5, 117, true⟩)) rfl rfl rfl rfl (by omega) ?_
   refine OA.p (some 7) (.int .i64 ((i : Nat) : Int)) rfl rfl rfl rfl ?_
   refine OA.op1 (dst := none) (v := (.tuple #[])) (n1 := (n1 + 1)) (w := (n1, some ⟨[(cMsg (la.getD i dMsg))], 5, 117, true⟩)) rfl rfl rfl (r_store rfl rfl rfl rfl rfl rfl rfl get_here rfl rfl (Nat.le_of_ble_eq_true rfl) rfl) (by omega) ?_
   refine OA.nil ?_
   intro _
   refine RA.seq hd ?_
   refine RA.region env_ok ?_
   refine OA.p (some 22) (.slice (some ⟨jb, 0, none⟩) B 2) rfl rfl rfl rfl ?_
   refine OA.p (some 23) (.int .i64 ((i : Nat) : Int)) rfl rfl rfl rfl ?_
   refine OA.p (some 24) (Pt jb i 0) rfl rfl rfl (r_iaS (l := i) rfl rfl rfl rfl rfl rfl (by omega) (by omega) (gt2 (by omega) hjb) rfl (by omega)) ?_
   refine OA.p (some 25) (.agg ⟨(cMsg (lb.getD i dMsg))⟩) rfl rfl rfl (r_loadR (c := cMsg) dMsg rfl rfl rfl rfl (gt2 (by omega) hjb) (by rw [hlb]; omega) rfl) ?_
   refine OA.op1 (dst := (some 9)) (v := (.pointer (some ⟨(n1 + 1), 0, some 0⟩))) (n1 := (n1 + 2)) (w := ((n1 + 1), some ⟨[[(.int .i64 0), (.int .i64 0), (.bool false), (.int .u32 0), (.string ByteArray.empty)]], 5, 117, true⟩)) rfl rfl rfl rfl (by omega) ?_
   refine OA.op1 (dst := none) (v := (.tuple #[])) (n1 := (n1 + 2)) (w := ((n1 + 1), some ⟨[(cMsg (lb.getD i dMsg))], 5, 117, true⟩)) rfl rfl rfl (r_store rfl rfl rfl rfl rfl rfl rfl get_here rfl rfl (Nat.le_of_ble_eq_true rfl) rfl) (by omega) ?_
   refine OA.nil ?_
   intro _
   refine RA.seq hd ?_
   refine RA.region env_ok ?_
   refine OA.p (some 26) (.func (.func 77) ⟨[]⟩ ⟨[]⟩) rfl rfl rfl rfl ?_
   refine OA.p (some 27) (.agg ⟨(xMh12 la i)⟩) rfl rfl rfl (r_loadA rfl rfl rfl rfl (gt2 (by omega) get_here) rfl rfl rfl) ?_
   refine OA.p (some 28) (.agg ⟨(xMh13 lb i)⟩) rfl rfl rfl (r_loadA rfl rfl rfl rfl get_here rfl rfl rfl) ?_
   by_cases hc3 : (la.getD i dMsg) = (lb.getD i dMsg)
   ·
    refine OA.callP (dst := (some 29)) (all := [(.agg ⟨(xMh12 la i)⟩), (.agg ⟨(xMh13 lb i)⟩)]) (v := (.bool true)) (hd.of (by omega) (kb4 (by omega))) rfl rfl rfl rfl rfl rfl rfl rfl (PS.to (mSame (la.getD i dMsg) (lb.getD i dMsg) (hka _ (getD_mem (by omega))) (hkb _ (getD_mem (by omega)))) (show (.bool (decide ((la.getD i dMsg) = (lb.getD i dMsg)))) = ((.bool true) : Value) from (by first | (rw [decide_eq_true hc3]; done) | (rw [decide_eq_true hc3]; rfl)))) ?_
    intro n2 hn2
    refine OA.p (some 30) (.bool false) rfl rfl rfl rfl ?_
    refine OA.nil ?_
    intro _
    refine RA.condF rfl ?_
    refine RA.skip env_ok ?_
    intro _
    refine RA.region env_ok ?_
    refine OA.p (some 31) (.int .i64 (((i + 1) : Nat) : Int)) rfl rfl rfl (r_bin rfl rfl rfl (b_add (i64_eq (by omega)))) ?_
    refine OA.p (some 17) (.int .i64 (((i + 1) : Nat) : Int)) rfl rfl rfl rfl ?_
    refine OA.nil ?_
    refine ⟨(A - (i + 1)), by omega, [], (Less.of (fun p hp => by simp at hp) (gone_of (by simp only [goneP, memP, List.cons_append, List.nil_append, true_or, or_true, true_and, and_true, or_false] <;> omega))), (i + 1), rfl, by omega, ⟨rfl, rfl, rfl, rfl, rfl, rfl, trivial⟩, rfl, (fun i hi => by cases hi), ⟨by omega, by rw [take_succ_getD (d := dMsg) (by omega), take_succ_getD (l := lb) (d := dMsg) (by omega), hi2, hc3]⟩⟩
   ·
    refine OA.callP (dst := (some 29)) (all := [(.agg ⟨(xMh12 la i)⟩), (.agg ⟨(xMh13 lb i)⟩)]) (v := (.bool false)) (hd.of (by omega) (kb4 (by omega))) rfl rfl rfl rfl rfl rfl rfl rfl (PS.to (mSame (la.getD i dMsg) (lb.getD i dMsg) (hka _ (getD_mem (by omega))) (hkb _ (getD_mem (by omega)))) (show (.bool (decide ((la.getD i dMsg) = (lb.getD i dMsg)))) = ((.bool false) : Value) from (by first | (rw [decide_eq_false hc3]; done) | (rw [decide_eq_false hc3]; rfl)))) ?_
    intro n3 hn3
    refine OA.p (some 30) (.bool true) rfl rfl rfl rfl ?_
    refine OA.nil ?_
    intro _
    refine RA.condT rfl ?_
    refine RA.seq hd ?_
    refine RA.region env_ok ?_
    refine OA.p (some 6) (.bool false) rfl rfl rfl rfl ?_
    refine OA.nil ?_
    intro _
    refine RA.ret env_ok ?_
    refine ⟨.inr rfl, [(.bool false)], (resL_cons rfl resL_nil), (congrArg Value.bool (decide_eq_false (fun hh : la.take A = lb => hc3 (by rw [← hh, List.getD_eq_getElem?_getD, List.getD_eq_getElem?_getD, List.getElem?_take_of_lt (by omega)]))).symm), (kc4 (by omega))⟩
  ·
   refine OA.p (some 18) (.bool false) rfl rfl rfl (Eq.trans (r_bin rfl rfl rfl (b_lss rfl)) (dF hc2)) ?_
   refine OA.nil ?_
   intro _
   refine RA.seq hd ?_
   refine RA.condF rfl ?_
   refine RA.exit env_ok ?_
   intro _
   refine RA.seq hd ?_
   refine RA.region env_ok ?_
   refine OA.p (some 6) (.bool true) rfl rfl rfl rfl ?_
   refine OA.nil ?_
   intro _
   refine RA.ret env_ok ?_
   refine ⟨.inr rfl, [(.bool true)], (resL_cons rfl resL_nil), (congrArg Value.bool (decide_eq_true (by rw [show A = i from by omega, hi2, List.take_of_length_le (by omega)])).symm), (fun i hi => by cases hi)⟩

theorem mOfC {σ : Store} (x : Msg) (k1 k2 : Nat) (b : Bool) (s : Int) (h1 : σ k1 = some ⟨[[(.bool b)]], 1, 4, true⟩) (h2 : σ k2 = some ⟨[[(.int .i64 s)]], 1, 3, true⟩)  : PS Try.prog noDen 101 [(.agg ⟨(cMsg x)⟩), (Pt k1 0 0), (Pt k2 0 0)] σ (.bool (ofP b s x)) := by
 refine PS.body (E := env) env_ok rfl rfl (by show _ ≤ _; exact of_decide_eq_true (by kernel_rfl)) (fun n hd => ?_)
 have lh1 := hd.lt h1
 have lh2 := hd.lt h2
 refine RA.seq hd ?_
 refine RA.region env_ok ?_
 refine OA.op1 (dst := (some 3)) (v := (Pt n 0 0)) (n1 := (n + 1)) (w := (n, some ⟨[(cMsg x)], 5, 117, true⟩)) rfl rfl rfl rfl (by omega) ?_
 refine OA.p (some 4) (.bool false) rfl rfl rfl rfl ?_
 refine OA.nil ?_
 intro _
 refine RA.seq hd ?_
 refine RA.region env_ok ?_
 refine OA.p (some 5) (Pt n 0 2) rfl rfl rfl rfl ?_
 by_cases hc1 : x.loose = true
 ·
  refine OA.p (some 6) (.bool true) rfl rfl rfl (Eq.trans (r_load1 rfl rfl rfl rfl rfl get_here rfl rfl) (bT hc1)) ?_
  by_cases hc2 : b = true
  ·
   refine OA.p (some 7) (.bool true) rfl rfl rfl (Eq.trans (r_load1 rfl rfl rfl rfl rfl (get_there (by omega) h1) rfl rfl) (bT hc2)) ?_
   refine OA.p (some 8) (.bool true) rfl rfl rfl rfl ?_
   refine OA.p (some 9) (.bool true) rfl rfl rfl rfl ?_
   refine OA.p (some 10) (.bool true) rfl rfl rfl (Eq.trans (r_load1 rfl rfl rfl rfl rfl (get_there (by omega) h1) rfl rfl) (bT hc2)) ?_
   refine OA.p (some 11) (.bool true) rfl rfl rfl rfl ?_
   refine OA.off (dst := (some 12)) rfl rfl rfl ?_
   refine OA.off (dst := (some 13)) rfl rfl rfl ?_
   refine OA.off (dst := (some 14)) rfl rfl rfl ?_
   refine OA.off (dst := (some 15)) rfl rfl rfl ?_
   refine OA.p (some 16) (.bool true) rfl rfl rfl rfl ?_
   refine OA.p (some 17) (.bool true) rfl rfl rfl rfl ?_
   refine OA.p (some 4) (.bool true) rfl rfl rfl rfl ?_
   refine OA.nil ?_
   intro _
   refine RA.ret env_ok ?_
   refine ⟨.inr rfl, [(.bool true)], (resL_cons rfl resL_nil), (by show Value.bool _ = Value.bool _; unfold ofP; simp_all), (kc1 (by omega))⟩
  ·
   refine OA.p (some 7) (.bool false) rfl rfl rfl (Eq.trans (r_load1 rfl rfl rfl rfl rfl (get_there (by omega) h1) rfl rfl) (bF hc2)) ?_
   refine OA.p (some 8) (.bool false) rfl rfl rfl rfl ?_
   refine OA.p (some 9) (.bool false) rfl rfl rfl rfl ?_
   refine OA.off (dst := (some 10)) rfl rfl rfl ?_
   refine OA.off (dst := (some 11)) rfl rfl rfl ?_
   refine OA.off (dst := (some 12)) rfl rfl rfl ?_
   refine OA.off (dst := (some 13)) rfl rfl rfl ?_
   refine OA.off (dst := (some 14)) rfl rfl rfl ?_
   refine OA.off (dst := (some 15)) rfl rfl rfl ?_
   refine OA.off (dst := (some 16)) rfl rfl rfl ?_
   refine OA.p (some 17) (.bool false) rfl rfl rfl rfl ?_
   refine OA.p (some 4) (.bool false) rfl rfl rfl rfl ?_
   refine OA.nil ?_
   intro _
   refine RA.ret env_ok ?_
   refine ⟨.inr rfl, [(.bool false)], (resL_cons rfl resL_nil), (by show Value.bool _ = Value.bool _; unfold ofP; simp_all), (kc1 (by omega))⟩
 ·
  refine OA.p (some 6) (.bool false) rfl rfl rfl (Eq.trans (r_load1 rfl rfl rfl rfl rfl get_here rfl rfl) (bF hc1)) ?_
  by_cases hc3 : b = true
  ·
   refine OA.p (some 7) (.bool true) rfl rfl rfl (Eq.trans (r_load1 rfl rfl rfl rfl rfl (get_there (by omega) h1) rfl rfl) (bT hc3)) ?_
   refine OA.p (some 8) (.bool false) rfl rfl rfl rfl ?_
   refine OA.p (some 9) (.bool false) rfl rfl rfl rfl ?_
   refine OA.off (dst := (some 10)) rfl rfl rfl ?_
   refine OA.off (dst := (some 11)) rfl rfl rfl ?_
   refine OA.off (dst := (some 12)) rfl rfl rfl ?_
   refine OA.off (dst := (some 13)) rfl rfl rfl ?_
   refine OA.off (dst := (some 14)) rfl rfl rfl ?_
   refine OA.off (dst := (some 15)) rfl rfl rfl ?_
   refine OA.off (dst := (some 16)) rfl rfl rfl ?_
   refine OA.p (some 17) (.bool false) rfl rfl rfl rfl ?_
   refine OA.p (some 4) (.bool false) rfl rfl rfl rfl ?_
   refine OA.nil ?_
   intro _
   refine RA.ret env_ok ?_
   refine ⟨.inr rfl, [(.bool false)], (resL_cons rfl resL_nil), (by show Value.bool _ = Value.bool _; unfold ofP; simp_all), (kc1 (by omega))⟩
  ·
   refine OA.p (some 7) (.bool false) rfl rfl rfl (Eq.trans (r_load1 rfl rfl rfl rfl rfl (get_there (by omega) h1) rfl rfl) (bF hc3)) ?_
   refine OA.p (some 8) (.bool true) rfl rfl rfl rfl ?_
   refine OA.p (some 9) (.bool true) rfl rfl rfl rfl ?_
   refine OA.p (some 10) (.bool false) rfl rfl rfl (Eq.trans (r_load1 rfl rfl rfl rfl rfl (get_there (by omega) h1) rfl rfl) (bF hc3)) ?_
   refine OA.p (some 11) (.bool false) rfl rfl rfl rfl ?_
   refine OA.p (some 12) (Pt n 0 0) rfl rfl rfl rfl ?_
   refine OA.p (some 13) (.int .i64 x.st) rfl rfl rfl (r_load1 rfl rfl rfl rfl rfl get_here rfl rfl) ?_
   refine OA.p (some 14) (.int .i64 s) rfl rfl rfl (r_load1 rfl rfl rfl rfl rfl (get_there (by omega) h2) rfl rfl) ?_
   refine OA.p (some 15) (.bool (decide (x.st = s))) rfl rfl rfl (r_bin rfl rfl rfl (b_eql rfl)) ?_
   refine OA.p (some 16) (.bool (decide (x.st = s))) rfl rfl rfl rfl ?_
   refine OA.p (some 17) (.bool (decide (x.st = s))) rfl rfl rfl rfl ?_
   refine OA.p (some 4) (.bool (decide (x.st = s))) rfl rfl rfl rfl ?_
   refine OA.nil ?_
   intro _
   refine RA.ret env_ok ?_
   refine ⟨.inr rfl, [(.bool (decide (x.st = s)))], (resL_cons rfl resL_nil), (by show Value.bool _ = Value.bool _; unfold ofP; simp_all), (kc1 (by omega))⟩

theorem mThose {n : Nat} {σ : Store} (hd : Dom n σ) (j N : Nat) (l : List Msg) (hl : l.length = N) (hN : N ≤ 100000) (b : Bool) (s : Int) (k1 k2 : Nat) (hj : σ j = some (oMsg l)) (h1 : σ k1 = some ⟨[[(.bool b)]], 1, 4, true⟩) (h2 : σ k2 = some ⟨[[(.int .i64 s)]], 1, 3, true⟩)  : CQ Try.prog noDen 100 [(.slice (some ⟨j, 0, none⟩) N 2), (.func (.func 101) ⟨[]⟩ ⟨[(Pt k1 0 0), (Pt k2 0 0)]⟩)] n σ (fun v n' d => ∃ i, n ≤ i ∧ i < n' ∧ ∃ M, (l.filter (ofP b s)).length = M ∧ M ≤ N ∧ v = .slice (some ⟨i, 0, none⟩) M 2 ∧ d = [(i, some (oMsg (l.filter (ofP b s))))]) := by
 have lhj := hd.lt hj
 have lh1 := hd.lt h1
 have lh2 := hd.lt h2
 refine CQ.body (E := env) env_ok hd rfl rfl (by show _ ≤ _; exact of_decide_eq_true (by kernel_rfl)) ?_
 refine RA.seq hd ?_
 refine RA.region env_ok ?_
 refine OA.p (some 4) (.slice none 0 0) rfl rfl rfl rfl ?_
 refine OA.nil ?_
 intro _
 refine RA.seq hd ?_
 refine RA.region env_ok ?_
 refine OA.p (some 5) (.slice none 0 0) rfl rfl rfl rfl ?_
 refine OA.nil ?_
 intro _
 refine RA.seq hd ?_
 refine RA.seq hd ?_
 refine RA.region env_ok ?_
 refine OA.p (some 8) (.slice (some ⟨j, 0, none⟩) N 2) rfl rfl rfl rfl ?_
 refine OA.p (some 9) (.int .i64 ((N : Nat) : Int)) rfl rfl rfl rfl ?_
 refine OA.p (some 10) (.int .i64 0) rfl rfl rfl rfl ?_
 refine OA.nil ?_
 intro _
 refine RA.block ?_
 refine RA.ph (sz := 5) (t := 117) (by decide) ?_
 show RA _ _ _ _ _ _ _ _ [(n, some (oMsg ([] : List Msg)))] _
 refine RA.leT (t := 5) (v := (.slice none 0 0)) (v' := (.slice (some ⟨n, 0, none⟩) 0 2)) rfl (vle_nil _ _) ?_
 refine RA.loop hd (fun kk_ τ n' D => (∃ i : Nat, ∃ ko : Nat, ∃ M : Nat, kk_ = N - i ∧ (n + 1) ≤ n' ∧ Has τ [(1, (.func (.func 101) ⟨[]⟩ ⟨[(Pt k1 0 0), (Pt k2 0 0)]⟩)), (5, (.slice (some ⟨ko, 0, none⟩) M 2)), (8, (.slice (some ⟨j, 0, none⟩) N 2)), (9, (.int .i64 ((N : Nat) : Int))), (10, (.int .i64 ((i : Nat) : Int)))] ∧ D = [(ko, some (oMsg ((l.take i).filter (ofP b s))))] ∧ (∀ i ∈ keys D, i < n') ∧ i ≤ N ∧ ((l.take i).filter (ofP b s)).length = M ∧ M ≤ i ∧ n ≤ ko)) (N - 0) (⟨0, n, 0, rfl, by omega, ⟨rfl, rfl, rfl, rfl, rfl, trivial⟩, (by rfl), (kb1 (by omega)), ⟨by omega, rfl, by omega, by omega⟩⟩) ?_
 rintro kn1 τ1 n1 _ ⟨i, ko, M, rfl, hn1, hHn1, rfl, hKn1, hIn1⟩
 rw [Has.eq hHn1]
 have hKn1_0 : ko < n1 := hKn1 _ (by simp only [keys, List.map_cons, List.map_nil, List.mem_cons, true_or, or_true])
 clear hKn1
 obtain ⟨hi1, hi2, hi3, hi4⟩ := hIn1
 refine RA.seq hd ?_
 refine RA.region env_ok ?_
 by_cases hc1 : ((i : Nat) : Int) < ((N : Nat) : Int)
 ·
  have hiT : i < l.length := by omega
  refine OA.p (some 11) (.bool true) rfl rfl rfl (Eq.trans (r_bin rfl rfl rfl (b_lss rfl)) (dT hc1)) ?_
  refine OA.nil ?_
  intro _
  refine RA.seq hd ?_
  refine RA.condT rfl ?_
  refine RA.skip env_ok ?_
  intro _
  refine RA.seq hd ?_
  refine RA.block ?_
  refine RA.seq hd ?_
  refine RA.region env_ok ?_
  refine OA.p (some 12) (Pt j i 0) rfl rfl rfl (r_iaS (l := i) rfl rfl rfl rfl rfl rfl (by omega) (by omega) (get_there (by omega) hj) rfl (by omega)) ?_
  refine OA.p (some 13) (.agg ⟨(cMsg (l.getD i dMsg))⟩) rfl rfl rfl (r_loadR (c := cMsg) dMsg rfl rfl rfl rfl (get_there (by omega) hj) (by rw [hl]; omega) rfl) ?_
  refine OA.op1 (dst := (some 7)) (v := (Pt n1 0 0)) (n1 := (n1 + 1)) (w := (n1, some ⟨[[(.int .i64 0), (.int .i64 0), (.bool false), (.int .u32 0), (.string ByteArray.empty)]], 5, 117, true⟩)) rfl rfl rfl rfl (by omega) ?_
  refine OA.op1 (dst := none) (v := (.tuple #[])) (n1 := (n1 + 1)) (w := (n1, some ⟨[(cMsg (l.getD i dMsg))], 5, 117, true⟩)) rfl rfl rfl (r_store rfl rfl rfl rfl rfl rfl rfl get_here rfl rfl (Nat.le_of_ble_eq_true rfl) rfl) (by omega) ?_
  refine OA.nil ?_
  intro _
  refine RA.seq hd ?_
  refine RA.region env_ok ?_
  refine OA.p (some 14) (.func (.func 101) ⟨[]⟩ ⟨[(Pt k1 0 0), (Pt k2 0 0)]⟩) rfl rfl rfl rfl ?_
  refine OA.p (some 15) (.agg ⟨(xMh14 l i)⟩) rfl rfl rfl (r_loadA rfl rfl rfl rfl get_here rfl rfl rfl) ?_
  by_cases hc2 : (ofP b s (l.getD i dMsg)) = true
  ·
   refine OA.callP (dst := (some 16)) (all := [(.agg ⟨(xMh14 l i)⟩), (Pt k1 0 0), (Pt k2 0 0)]) (v := (.bool true)) (hd.of (by omega) (kb3 (by omega))) rfl rfl rfl rfl rfl rfl rfl rfl (PS.to (mOfC (l.getD i dMsg) k1 k2 b s (gt3 (by omega) h1) (gt3 (by omega) h2)) (show (.bool (ofP b s (l.getD i dMsg))) = ((.bool true) : Value) from (by first | (rw [hc2]; done) | (rw [hc2]; rfl)))) ?_
   intro n2 hn2
   refine OA.nil ?_
   intro _
   refine RA.condT rfl ?_
   refine RA.region env_ok ?_
   refine OA.p (some 17) (.slice (some ⟨ko, 0, none⟩) M 2) rfl rfl rfl rfl ?_
   refine OA.p (some 18) (.agg ⟨(xMh14 l i)⟩) rfl rfl rfl (r_loadA rfl rfl rfl rfl get_here rfl rfl rfl) ?_
   refine OA.op1 (dst := (some 19)) (v := (.slice (some ⟨n2, 0, none⟩) 1 0)) (n1 := (n2 + 1)) (w := (n2, some ⟨[(xMh14 l i)], 5, 117, true⟩)) rfl rfl rfl (by kernel_rfl) (by omega) ?_
   refine OA.op (dst := (some 20)) (v := (.slice (some ⟨(n2 + 1), 0, none⟩) (M + 1) 2)) (n1 := (n2 + 2)) (d1 := [((n2 + 1), some (oMsg (((l.take i).filter (ofP b s)) ++ [(l.getD i dMsg)]))), (ko, none)]) (D' := [((n2 + 1), some (oMsg (((l.take i).filter (ofP b s)) ++ [(l.getD i dMsg)]))), (ko, none), (n2, some ⟨[(xMh14 l i)], 5, 117, true⟩), (n1, some ⟨[(cMsg (l.getD i dMsg))], 5, 117, true⟩), (n1, some ⟨[[(.int .i64 0), (.int .i64 0), (.bool false), (.int .u32 0), (.string ByteArray.empty)]], 5, 117, true⟩), (ko, some (oMsg ((l.take i).filter (ofP b s))))]) rfl rfl rfl (r_append2x (c := cMsg) (x := (l.getD i dMsg)) (l' := (((l.take i).filter (ofP b s)) ++ [(l.getD i dMsg)])) rfl rfl rfl rfl rfl rfl rfl rfl rfl rfl (by decide) (gt3 (by omega) get_here) get_here (by rw [hi2]; omega) (by rw [take_all' (by rw [hi2])]) (by omega) (of_decide_eq_true (by kernel_rfl)) (by omega)) (by omega) rfl ?_
   refine OA.p (some 5) (.slice (some ⟨(n2 + 1), 0, none⟩) (M + 1) 2) rfl rfl rfl rfl ?_
   refine OA.nil ?_
   intro _
   refine RA.region env_ok ?_
   refine OA.p (some 21) (.int .i64 (((i + 1) : Nat) : Int)) rfl rfl rfl (r_bin rfl rfl rfl (b_add (i64_eq (by omega)))) ?_
   refine OA.p (some 10) (.int .i64 (((i + 1) : Nat) : Int)) rfl rfl rfl rfl ?_
   refine OA.nil ?_
   refine ⟨N - (i + 1), by omega, [((n2 + 1), some (oMsg (((l.take i).filter (ofP b s)) ++ [(l.getD i dMsg)])))], (Less.of (fac (mm (fun _ => get_here) (fun _ => get_here)) fan) (gone_of (by simp only [goneP, memP, List.cons_append, List.nil_append, true_or, or_true, true_and, and_true, or_false] <;> omega))), ⟨(i + 1), (n2 + 1), (M + 1), rfl, by omega, ⟨rfl, rfl, rfl, rfl, rfl, trivial⟩, (by rw [fl_yes hiT hc2]), (kb1 (by omega)), ⟨by omega, by rw [fl_yes hiT hc2]; rw [List.length_append, List.length_singleton, hi2], by omega, by omega⟩⟩⟩
  ·
   refine OA.callP (dst := (some 16)) (all := [(.agg ⟨(xMh14 l i)⟩), (Pt k1 0 0), (Pt k2 0 0)]) (v := (.bool false)) (hd.of (by omega) (kb3 (by omega))) rfl rfl rfl rfl rfl rfl rfl rfl (PS.to (mOfC (l.getD i dMsg) k1 k2 b s (gt3 (by omega) h1) (gt3 (by omega) h2)) (show (.bool (ofP b s (l.getD i dMsg))) = ((.bool false) : Value) from (by first | (rw [eq_false_of_ne_true hc2]; done) | (rw [eq_false_of_ne_true hc2]; rfl)))) ?_
   intro n3 hn3
   refine OA.nil ?_
   intro _
   refine RA.condF rfl ?_
   refine RA.skip env_ok ?_
   intro _
   refine RA.region env_ok ?_
   refine OA.p (some 21) (.int .i64 (((i + 1) : Nat) : Int)) rfl rfl rfl (r_bin rfl rfl rfl (b_add (i64_eq (by omega)))) ?_
   refine OA.p (some 10) (.int .i64 (((i + 1) : Nat) : Int)) rfl rfl rfl rfl ?_
   refine OA.nil ?_
   refine ⟨N - (i + 1), by omega, [(ko, some (oMsg ((l.take i).filter (ofP b s))))], (Less.of (fac (mm (fun _ => get_here) (fun _ => (gt2 (by omega) get_here))) fan) (gone_of (by simp only [goneP, memP, List.cons_append, List.nil_append, true_or, or_true, true_and, and_true, or_false] <;> omega))), ⟨(i + 1), ko, M, rfl, by omega, ⟨rfl, rfl, rfl, rfl, rfl, trivial⟩, (by rw [fl_no hiT hc2]), (kb1 (by omega)), ⟨by omega, by rw [fl_no hiT hc2]; exact hi2, by omega, by omega⟩⟩⟩
 ·
  refine OA.p (some 11) (.bool false) rfl rfl rfl (Eq.trans (r_bin rfl rfl rfl (b_lss rfl)) (dF hc1)) ?_
  refine OA.nil ?_
  intro _
  refine RA.seq hd ?_
  refine RA.condF rfl ?_
  refine RA.exit env_ok ?_
  intro _
  refine RA.seq hd ?_
  refine RA.region env_ok ?_
  refine OA.p (some 22) (.slice (some ⟨ko, 0, none⟩) M 2) rfl rfl rfl rfl ?_
  refine OA.p (some 4) (.slice (some ⟨ko, 0, none⟩) M 2) rfl rfl rfl rfl ?_
  refine OA.nil ?_
  intro _
  refine RA.ret env_ok ?_
  refine ⟨.inr rfl, [(.slice (some ⟨ko, 0, none⟩) M 2)], (resL_cons rfl resL_nil), [(ko, some (oMsg ((l.take i).filter (ofP b s))))], (Less.refl _ _ _), ⟨ko, by omega, by omega, M, by rw [← hi2, List.take_of_length_le (by omega)], by omega, rfl, by rw [List.take_of_length_le (by omega)]⟩⟩

theorem mOf {n : Nat} {σ : Store} (hd : Dom n σ) (j N : Nat) (l : List Msg) (hl : l.length = N) (hN : N ≤ 100000) (b : Bool) (s : Int) (hj : σ j = some (oMsg l))  : CQ Try.prog noDen 75 [(.slice (some ⟨j, 0, none⟩) N 2), (.int .i64 s), (.bool b)] n σ (fun v n' d => ∃ i, n ≤ i ∧ i < n' ∧ ∃ M, (l.filter (ofP b s)).length = M ∧ M ≤ N ∧ v = .slice (some ⟨i, 0, none⟩) M 2 ∧ d = [(i, some (oMsg (l.filter (ofP b s))))]) := by
 have lhj := hd.lt hj
 refine CQ.body (E := env) env_ok hd rfl rfl (by show _ ≤ _; exact of_decide_eq_true (by kernel_rfl)) ?_
 refine RA.seq hd ?_
 refine RA.region env_ok ?_
 refine OA.op1 (dst := (some 4)) (v := (Pt n 0 0)) (n1 := (n + 1)) (w := (n, some ⟨[[(.int .i64 s)]], 1, 3, true⟩)) rfl rfl rfl rfl (by omega) ?_
 refine OA.op1 (dst := (some 5)) (v := (.pointer (some ⟨(n + 1), 0, some 0⟩))) (n1 := (n + 2)) (w := ((n + 1), some ⟨[[(.bool b)]], 1, 4, true⟩)) rfl rfl rfl rfl (by omega) ?_
 refine OA.p (some 6) (.slice none 0 0) rfl rfl rfl rfl ?_
 refine OA.nil ?_
 intro _
 refine RA.seq hd ?_
 refine RA.region env_ok ?_
 refine OA.p (some 7) (.slice (some ⟨j, 0, none⟩) N 2) rfl rfl rfl rfl ?_
 refine OA.p (some 8) (.func (.func 101) ⟨[]⟩ ⟨[(.pointer (some ⟨(n + 1), 0, some 0⟩)), (Pt n 0 0)]⟩) rfl rfl rfl rfl ?_
 refine OA.call (dst := (some 9)) (all := [(.slice (some ⟨j, 0, none⟩) N 2), (.func (.func 101) ⟨[]⟩ ⟨[(.pointer (some ⟨(n + 1), 0, some 0⟩)), (Pt n 0 0)]⟩)]) rfl rfl rfl rfl rfl rfl rfl rfl (CQ.imp (mThose (hd.of (by omega) (kb2 (by omega))) j N l hl hN b s (n + 1) n (gt2 (by omega) hj) get_here (get_there (by omega) get_here)) ?_)
 rintro _ n1 _ ⟨jon1, o1n1, o2n1, Mon1, hon1, hmn1, rfl, rfl⟩ hn1
 refine OA.app1 ?_
 refine OA.p (some 6) (.slice (some ⟨jon1, 0, none⟩) Mon1 2) rfl rfl rfl rfl ?_
 refine OA.nil ?_
 intro _
 refine RA.ret env_ok ?_
 refine ⟨.inr rfl, [(.slice (some ⟨jon1, 0, none⟩) Mon1 2)], (resL_cons rfl resL_nil), [(jon1, some (oMsg (l.filter (ofP b s))))], (Less.of (fac (mm (fun _ => get_here) (fun _ => get_here)) fan) (gone_of (by simp only [goneP, memP, List.cons_append, List.nil_append, true_or, or_true, true_and, and_true, or_false] <;> omega))), ⟨jon1, by omega, by omega, Mon1, hon1, hmn1, rfl, rfl⟩⟩
end Go.Proofs.Ytnjknabighmedaa.Vt
