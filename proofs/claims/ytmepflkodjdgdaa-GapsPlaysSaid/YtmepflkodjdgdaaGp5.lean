/- Gp5: walks through functions of the program, by the calculus; written by a program of this workplace. -/
import Derived.Test.YtmepflkodjdgdaaGpL
import Derived.Test.YtmepflkodjdgdaaVm6
namespace Go.Proofs.Ytmepflkodjdgdaa.Vt
open Go Go.Proofs Go.Proofs.YtmepflkodjdgdaaV
set_option maxRecDepth 100000
set_option linter.unusedVariables false
set_option linter.unusedSimpArgs false
structure Inn where
  z : Int
deriving DecidableEq
def dInn : Inn := ⟨0⟩
abbrev cInn (e : Inn) : List Value := [(.int .i64 e.z)]
abbrev oInn (l : List Inn) : AObj := ⟨l.map cInn, 1, 3, true⟩
def inF (x : Int) (fs : List Inn) : Bool := fs.any (fun e => decide (e.z = x))
def decF (fs : List Inn) : List Inn := (fs.filter (fun e => decide (1 < e.z))).map (fun e => Inn.mk (e.z - 1))
def iterF : Nat → List Inn → List Inn
  | 0, fs => fs
  | k + 1, fs => decF (iterF k fs)
def lookR (cum : BitVec 32) (fs : List Inn) (tsn : BitVec 32) : Int := if ((tsn - cum).toNat : Int) = 0 then 2 else if 2147483648 < ((tsn - cum).toNat : Int) then 2 else if 1000 < ((tsn - cum).toNat : Int) then 3 else if inF ((tsn - cum).toNat : Int) fs = true then 2 else 1
theorem inF_mem {x : Int} {fs : List Inn} : inF x fs = true ↔ ∃ e ∈ fs, e.z = x := by
  unfold inF; rw [List.any_eq_true]
  exact ⟨fun ⟨e, h1, h2⟩ => ⟨e, h1, of_decide_eq_true h2⟩, fun ⟨e, h1, h2⟩ => ⟨e, h1, decide_eq_true h2⟩⟩
theorem inF_yes {x : Int} {fs : List Inn} {i : Nat} (h : i < fs.length) (he : (fs.getD i dInn).z = x) : inF x fs = true := inF_mem.2 ⟨_, getD_mem h, he⟩
theorem inF_step {x : Int} {fs : List Inn} {i : Nat} (h : i < fs.length) (he : ¬ (fs.getD i dInn).z = x) (h0 : inF x (fs.take i) = false) : inF x (fs.take (i + 1)) = false := by
  unfold inF at h0 ⊢
  rw [take_succ_getD (d := dInn) h, List.any_append, h0, List.any_cons, decide_eq_false he]; rfl
theorem inF_end {x : Int} {fs : List Inn} {i : Nat} (h : fs.length ≤ i) (h0 : inF x (fs.take i) = false) : inF x fs = false := by rw [List.take_of_length_le h] at h0; exact h0
theorem decF_yes {fs : List Inn} {i : Nat} (h : i < fs.length) (he : 1 < (fs.getD i dInn).z) : decF (fs.take (i + 1)) = decF (fs.take i) ++ [Inn.mk ((fs.getD i dInn).z - 1)] := by
  unfold decF; rw [take_succ_getD (d := dInn) h, List.filter_append, List.filter_cons, if_pos (decide_eq_true he), List.map_append]; rfl
theorem decF_no {fs : List Inn} {i : Nat} (h : i < fs.length) (he : ¬ 1 < (fs.getD i dInn).z) : decF (fs.take (i + 1)) = decF (fs.take i) := by
  unfold decF; rw [take_succ_getD (d := dInn) h, List.filter_append, List.filter_cons, if_neg (by rw [decide_eq_false he]; decide)]
  exact congrArg (List.map _) (List.append_nil _)
theorem decF_len {fs : List Inn} : (decF fs).length ≤ fs.length := by unfold decF; rw [List.length_map]; exact List.length_filter_le _ _
theorem iterF_len {fs : List Inn} : ∀ {k : Nat}, (iterF k fs).length ≤ fs.length
  | 0 => Nat.le_refl _
  | k + 1 => Nat.le_trans decF_len iterF_len
theorem dec_mem {fs : List Inn} {x : Int} (hx : 1 ≤ x) : inF x (decF fs) = true ↔ inF (x + 1) fs = true := by
  rw [inF_mem, inF_mem]
  constructor
  · rintro ⟨e, h1, h2⟩
    obtain ⟨f, h3, rfl⟩ := List.mem_map.1 h1
    exact ⟨f, (List.mem_filter.1 h3).1, by have h2' : f.z - 1 = x := h2; omega⟩
  · rintro ⟨f, h1, h2⟩
    exact ⟨Inn.mk (f.z - 1), List.mem_map.2 ⟨f, List.mem_filter.2 ⟨h1, decide_eq_true (by omega)⟩, rfl⟩, by show f.z - 1 = x; omega⟩
theorem iter_mem {fs : List Inn} : ∀ {k : Nat} {x : Int}, 1 ≤ x → (inF x (iterF k fs) = true ↔ inF (x + k) fs = true)
  | 0, x, _ => by rw [show x + ((0 : Nat) : Int) = x by omega]; rfl
  | k + 1, x, hx => by
    rw [show iterF (k + 1) fs = decF (iterF k fs) from rfl, dec_mem hx, iter_mem (by omega), show x + 1 + (k : Int) = x + ((k + 1 : Nat) : Int) by omega]
theorem iter_bnd {fs : List Inn} {B : Int} (h : ∀ e ∈ fs, 1 ≤ e.z ∧ e.z ≤ B) : ∀ {k : Nat}, ∀ e ∈ iterF k fs, 1 ≤ e.z ∧ e.z ≤ B
  | 0 => h
  | k + 1 => fun e he => by
    obtain ⟨f, h3, rfl⟩ := List.mem_map.1 he
    obtain ⟨h4, h5⟩ := List.mem_filter.1 h3
    have h6 := iter_bnd h (k := k) f h4
    have h7 := of_decide_eq_true h5
    exact ⟨by show 1 ≤ f.z - 1; omega, by show f.z - 1 ≤ B; omega⟩
theorem inF_bnd {fs : List Inn} {B : Int} (h : ∀ e ∈ fs, 1 ≤ e.z ∧ e.z ≤ B) {i : Nat} : -1 ≤ (fs.getD i dInn).z ∧ (fs.getD i dInn).z ≤ max B 0 := by
  rcases Nat.lt_or_ge i fs.length with h1 | h1
  · have := h _ (getD_mem (d := dInn) h1); omega
  · rw [List.getD_eq_getElem?_getD, List.getElem?_eq_none h1]; exact ⟨by decide, by show (0 : Int) ≤ _; omega⟩
theorem ofNat_succ {cum : BitVec 32} {k : Nat} : cum + BitVec.ofNat 32 k + 1#32 = cum + BitVec.ofNat 32 (k + 1) := by
  rw [BitVec.add_assoc]; congr 1
  apply BitVec.eq_of_toNat_eq
  simp
theorem take_getD {la lb : List Gap} {A B i : Nat} (h : la.take A = lb.take B) (h1 : i < A) (h2 : i < B) : la.getD i dGap = lb.getD i dGap := by
  have h3 : (la.take A)[i]? = (lb.take B)[i]? := by rw [h]
  rw [List.getElem?_take_of_lt h1, List.getElem?_take_of_lt h2] at h3
  rw [List.getD_eq_getElem?_getD, List.getD_eq_getElem?_getD, h3]
def FI (ps : List Gap) (fs : List Inn) : Prop := canon 2 ps ∧ (∀ x : Int, 1 ≤ x → (mem x ps ↔ inF x fs = true)) ∧ ∀ e ∈ fs, 1 ≤ e.z ∧ e.z ≤ 1000
theorem getD_split {ps : List Gap} {m : Nat} (h : m < ps.length) : ps = ps.take m ++ ps.getD m dGap :: ps.drop (m + 1) := by
  rw [List.getD_eq_getElem?_getD, List.getElem?_eq_getElem h]
  exact (List.take_append_drop m ps).symm.trans (by rw [List.drop_eq_getElem_cons h]; rfl)
theorem FI.in {ps : List Gap} {fs : List Inn} (h : FI ps fs) {x : Int} (hx : 1 ≤ x) : inF x fs = true ↔ ∃ p ∈ ps, p.fr ≤ x ∧ x ≤ p.to := by
  rw [← h.2.1 x hx]
  unfold mem inGb inG
  rw [List.any_eq_true]
  exact ⟨fun ⟨p, h1, h2⟩ => ⟨p, h1, of_decide_eq_true h2⟩, fun ⟨p, h1, h2⟩ => ⟨p, h1, decide_eq_true h2⟩⟩
theorem FI.le {ps : List Gap} {fs : List Inn} (h : FI ps fs) {x : Int} (hx : inF x fs = true) : x ≤ 1000 := by
  obtain ⟨e, h1, rfl⟩ := inF_mem.1 hx; exact (h.2.2 e h1).2
theorem FI.ge {ps : List Gap} {fs : List Inn} (h : FI ps fs) {x : Int} (hx : inF x fs = true) : 2 ≤ x := by
  obtain ⟨e, h1, rfl⟩ := inF_mem.1 hx
  obtain ⟨p, h2, h3⟩ := (h.in (h.2.2 e h1).1).1 hx
  have := canon_all h.1 p h2; omega
def atn (ps : List Gap) (n : Int) (m : Nat) : Prop := m ≤ ps.length ∧ (∀ i, i < m → (ps.getD i dGap).to + 1 < n ∨ (ps.getD i dGap).fr < n) ∧ ∀ i, m ≤ i → i < ps.length → n ≤ (ps.getD i dGap).fr
theorem gap_at {ps : List Gap} {fs : List Inn} {n : Int} {m : Nat} (h : FI ps fs) (hn : 1 ≤ n) (ha : atn ps n m) (h1 : inF n fs = true) (h2 : ¬ inF (n - 1) fs = true) : m < ps.length ∧ (ps.getD m dGap).fr = n := by
  have hn2 := h.ge h1
  obtain ⟨p, hp, h3, h4⟩ := (h.in hn).1 h1
  obtain ⟨i, hi, rfl⟩ := List.getElem_of_mem hp
  have e : ps.getD i dGap = ps[i] := by rw [List.getD_eq_getElem?_getD, List.getElem?_eq_getElem hi]; rfl
  have h5 : ps[i].fr = n := by
    rcases (show ps[i].fr = n ∨ ps[i].fr ≤ n - 1 by omega) with h5 | h5
    · exact h5
    · exact absurd ((h.in (by omega)).2 ⟨ps[i], hp, h5, by omega⟩) h2
  have him : m ≤ i := by
    rcases Nat.lt_or_ge i m with hh | hh
    · rcases ha.2.1 i hh with g | g
      · rw [e] at g; omega
      · rw [e] at g; omega
    · exact hh
  have hmi : m = i := by
    rcases Nat.lt_or_ge m i with hh | hh
    · have g := ha.2.2 m (Nat.le_refl _) (by omega)
      have hs := getD_split (ps := ps) (m := m) (by omega)
      have hc := h.1
      rw [hs] at hc
      obtain ⟨_, _, _, q4, q5⟩ := canon_app.1 hc
      have hd : ps[i] ∈ ps.drop (m + 1) := by
        rw [List.mem_iff_getElem]
        exact ⟨i - (m + 1), by rw [List.length_drop]; omega, by rw [List.getElem_drop]; congr 1; omega⟩
      have := (canon_all q5 _ hd).1
      omega
    · omega
  subst hmi
  exact ⟨hi, by rw [e]; exact h5⟩
theorem gap_none {ps : List Gap} {fs : List Inn} {n : Int} {m : Nat} (h : FI ps fs) (hn : 1 ≤ n) (ha : atn ps n m) (h1 : ¬ (inF n fs = true ∧ ¬ inF (n - 1) fs = true)) : atn ps (n + 1) m := by
  refine ⟨ha.1, fun i hi => (ha.2.1 i hi).imp (by omega) (by omega), fun i h2 h3 => ?_⟩
  have g := ha.2.2 i h2 h3
  rcases (show (ps.getD i dGap).fr = n ∨ n + 1 ≤ (ps.getD i dGap).fr by omega) with e | e
  · exfalso
    apply h1
    have hp := getD_mem (d := dGap) h3
    have hb := canon_all h.1 _ hp
    refine ⟨(h.in hn).2 ⟨_, hp, by omega, by omega⟩, fun h4 => ?_⟩
    obtain ⟨q, hq, h5, h6⟩ := (h.in (by have := h.ge h4; omega)).1 h4
    have hs := getD_split (ps := ps) h3
    have hc := h.1
    rw [hs] at hc
    obtain ⟨_, q2, _, q4, q5⟩ := canon_app.1 hc
    rw [hs] at hq
    rcases List.mem_append.1 hq with hq | hq
    · have := q2 q hq; omega
    · rcases List.mem_cons.1 hq with rfl | hq
      · omega
      · have := (canon_all q5 _ hq).1; omega
  · exact e
theorem gap_more {ps : List Gap} {fs : List Inn} {t : Int} {m : Nat} (h : FI ps fs) (hm : m < ps.length) (h1 : (ps.getD m dGap).fr ≤ t) (h2 : t ≤ (ps.getD m dGap).to) (h3 : inF (t + 1) fs = true) : t + 1 ≤ (ps.getD m dGap).to := by
  obtain ⟨q, hq, h5, h6⟩ := (h.in (by have := h.ge h3; omega)).1 h3
  have hs := getD_split hm
  have hc := h.1
  rw [hs] at hc
  obtain ⟨_, q2, _, q4, q5⟩ := canon_app.1 hc
  rw [hs] at hq
  rcases List.mem_append.1 hq with hq | hq
  · have := q2 q hq; omega
  · rcases List.mem_cons.1 hq with rfl | hq
    · exact h6
    · have := (canon_all q5 _ hq).1; omega
theorem gap_stop {ps : List Gap} {fs : List Inn} {t : Int} {m : Nat} (h : FI ps fs) (hm : m < ps.length) (ht : 1 ≤ t) (h1 : (ps.getD m dGap).fr ≤ t) (h2 : t ≤ (ps.getD m dGap).to) (h3 : ¬ inF (t + 1) fs = true) : t = (ps.getD m dGap).to := by
  rcases (show t = (ps.getD m dGap).to ∨ t + 1 ≤ (ps.getD m dGap).to by omega) with g | g
  · exact g
  · exact absurd ((h.in (by omega)).2 ⟨_, getD_mem (d := dGap) hm, by omega, g⟩) h3
theorem gap_next {ps : List Gap} {fs : List Inn} {n : Int} {m : Nat} (h : FI ps fs) (hm : m < ps.length) (ha : atn ps n m) (h1 : (ps.getD m dGap).fr = n) : atn ps (n + 1) (m + 1) := by
  refine ⟨hm, fun i hi => ?_, fun i h2 h3 => ?_⟩
  · rcases Nat.lt_or_ge i m with g | g
    · exact (ha.2.1 i g).imp (by omega) (by omega)
    · rw [show i = m by omega]; right; omega
  · have hs := getD_split hm
    have hc := h.1
    rw [hs] at hc
    obtain ⟨_, q2, _, q4, q5⟩ := canon_app.1 hc
    have hd : ps.getD i dGap ∈ ps.drop (m + 1) := by
      rw [List.mem_iff_getElem]
      exact ⟨i - (m + 1), by rw [List.length_drop]; omega, by rw [List.getElem_drop, List.getD_eq_getElem?_getD, List.getElem?_eq_getElem h3]; show ps[_] = ps[i]; congr 1; omega⟩
    have := (canon_all q5 _ hd).1
    omega
theorem gap_end {ps : List Gap} {fs : List Inn} {n : Int} {m : Nat} (h : FI ps fs) (hn : 1000 < n) (ha : atn ps n m) : m = ps.length := by
  rcases Nat.lt_or_ge m ps.length with g | g
  · have h1 := ha.2.2 m (Nat.le_refl _) g
    have hp := getD_mem (d := dGap) g
    have hb := canon_all h.1 _ hp
    have h2 := h.le ((h.in (x := (ps.getD m dGap).fr) (by omega)).2 ⟨_, hp, by omega, by omega⟩)
    omega
  · have := ha.1; omega
theorem atn_0 {ps : List Gap} {fs : List Inn} (h : FI ps fs) : atn ps 1 0 := ⟨by omega, fun i hi => by omega, fun i _ h2 => by have := (canon_all h.1 _ (getD_mem (d := dGap) h2)).1; omega⟩
theorem gap_snoc {ps : List Gap} {n t : Int} {m : Nat} (hm : m < ps.length) (h1 : (ps.getD m dGap).fr = n) (h2 : t = (ps.getD m dGap).to) : ps.take (m + 1) = ps.take m ++ [Gap.mk n t] := by
  rw [take_succ_getD (d := dGap) hm]; subst h1; subst h2; rfl
theorem tk_len {ps : List Gap} {m : Nat} (h : m ≤ ps.length) : (ps.take m).length = m := by rw [List.length_take]; omega
theorem rHas {σ : Store} (jf jx F M : Nat) (cum : BitVec 32) (fs : List Inn) (hfs : fs.length = F) (hF : F ≤ 1000) (far : Int) (hjf : σ jf = some (oInn fs))  : PS Try.prog noDen 82 [(.agg ⟨[(W cum), (.slice (some ⟨jf, 0, none⟩) F 2), (.slice (some ⟨jx, 0, none⟩) M 2)]⟩), (.int .i64 far)] σ (.bool (inF far fs)) := by
 refine PS.body (E := env) env_ok rfl rfl (by show _ ≤ _; exact of_decide_eq_true (by kernel_rfl)) (fun n hd => ?_)
 have lhjf := hd.lt hjf
 refine RA.seq hd ?_
 refine RA.region env_ok ?_
 refine OA.op1 (dst := (some 2)) (v := (Pt n 0 0)) (n1 := (n + 1)) (w := (n, some ⟨[[(W cum), (.slice (some ⟨jf, 0, none⟩) F 2), (.slice (some ⟨jx, 0, none⟩) M 2)]], 3, 86, true⟩)) rfl rfl rfl rfl (by omega) ?_
 refine OA.p (some 4) (.bool false) rfl rfl rfl rfl ?_
 refine OA.nil ?_
 intro _
 refine RA.seq hd ?_
 refine RA.seq hd ?_
 refine RA.region env_ok ?_
 refine OA.p (some 5) (.int .i64 0) rfl rfl rfl rfl ?_
 refine OA.nil ?_
 intro _
 refine RA.block ?_
 refine RA.loop hd (fun kk_ τ n' D => ∃ i : Nat,  kk_ = (F - i) ∧ (n + 1) ≤ n' ∧ Has τ [(1, (.int .i64 far)), (2, (Pt n 0 0)), (5, (.int .i64 ((i : Nat) : Int)))] ∧ D = [(n, some ⟨[[(W cum), (.slice (some ⟨jf, 0, none⟩) F 2), (.slice (some ⟨jx, 0, none⟩) M 2)]], 3, 86, true⟩)] ∧ (∀ i ∈ keys D, i < n') ∧ i ≤ F ∧ inF far (fs.take i) = false) ((F - 0)) ⟨0, rfl, by omega, ⟨rfl, rfl, rfl, trivial⟩, rfl, (kb1 (by omega)), ⟨by omega, rfl⟩⟩ ?_
 rintro kn1 τ1 n1 _ ⟨i, rfl, hn1, hHn1, rfl, hKn1, hIn1⟩
 rw [Has.eq hHn1]
 have hKn1_0 : n < n1 := hKn1 _ (by simp only [keys, List.map_cons, List.map_nil, List.mem_cons, true_or, or_true])
 simp only [keys, List.map, List.forall_mem_cons, List.mem_cons, List.not_mem_nil, false_imp_iff, implies_true, and_true] at hKn1
 obtain ⟨hi1, hi2⟩ := hIn1
 refine RA.seq hd ?_
 refine RA.seq hd ?_
 refine RA.region env_ok ?_
 refine OA.p (some 6) (.int .i64 ((i : Nat) : Int)) rfl rfl rfl rfl ?_
 refine OA.p (some 7) (Pt n 0 1) rfl rfl rfl rfl ?_
 refine OA.p (some 8) (.slice (some ⟨jf, 0, none⟩) F 2) rfl rfl rfl (r_load1 rfl rfl rfl rfl rfl get_here rfl rfl) ?_
 refine OA.p (some 9) (.int .i64 ((F : Nat) : Int)) rfl rfl rfl rfl ?_
 by_cases hc1 : ((i : Nat) : Int) < ((F : Nat) : Int)
 ·
  refine OA.p (some 10) (.bool true) rfl rfl rfl (Eq.trans (r_bin rfl rfl rfl (b_lss rfl)) (dT hc1)) ?_
  refine OA.nil ?_
  intro _
  refine RA.condT rfl ?_
  refine RA.skip env_ok ?_
  intro _
  refine RA.seq hd ?_
  refine RA.block ?_
  refine RA.seq hd ?_
  refine RA.region env_ok ?_
  refine OA.p (some 13) (Pt n 0 1) rfl rfl rfl rfl ?_
  refine OA.p (some 14) (.slice (some ⟨jf, 0, none⟩) F 2) rfl rfl rfl (r_load1 rfl rfl rfl rfl rfl get_here rfl rfl) ?_
  refine OA.p (some 15) (.int .i64 ((i : Nat) : Int)) rfl rfl rfl rfl ?_
  refine OA.p (some 16) (Pt jf i 0) rfl rfl rfl (r_iaS (l := i) rfl rfl rfl rfl rfl rfl (by omega) (by omega) (get_there (by omega) hjf) rfl (by omega)) ?_
  refine OA.p (some 17) (.int .i64 (fs.getD i dInn).z) rfl rfl rfl (r_loadF (c := cInn) dInn rfl rfl rfl rfl rfl (get_there (by omega) hjf) (by rw [hfs]; omega) rfl) ?_
  refine OA.p (some 18) (.int .i64 far) rfl rfl rfl rfl ?_
  by_cases hc2 : (fs.getD i dInn).z = far
  ·
   refine OA.p (some 19) (.bool true) rfl rfl rfl (Eq.trans (r_bin rfl rfl rfl (b_eql rfl)) (dT hc2)) ?_
   refine OA.nil ?_
   intro _
   refine RA.condT rfl ?_
   refine RA.seq hd ?_
   refine RA.region env_ok ?_
   refine OA.p (some 4) (.bool true) rfl rfl rfl rfl ?_
   refine OA.nil ?_
   intro _
   refine RA.ret env_ok ?_
   refine ⟨.inr rfl, [(.bool true)], (resL_cons rfl resL_nil), (congrArg Value.bool (inF_yes (by omega) hc2).symm), (kc1 (by omega))⟩
  ·
   refine OA.p (some 19) (.bool false) rfl rfl rfl (Eq.trans (r_bin rfl rfl rfl (b_eql rfl)) (dF hc2)) ?_
   refine OA.nil ?_
   intro _
   refine RA.condF rfl ?_
   refine RA.skip env_ok ?_
   intro _
   refine RA.region env_ok ?_
   refine OA.p (some 11) (.int .i64 ((i : Nat) : Int)) rfl rfl rfl rfl ?_
   refine OA.p (some 12) (.int .i64 (((i + 1) : Nat) : Int)) rfl rfl rfl (r_bin rfl rfl rfl (b_add (i64_eq (by omega)))) ?_
   refine OA.p (some 5) (.int .i64 (((i + 1) : Nat) : Int)) rfl rfl rfl rfl ?_
   refine OA.nil ?_
   refine ⟨(F - (i + 1)), by omega, [(n, some ⟨[[(W cum), (.slice (some ⟨jf, 0, none⟩) F 2), (.slice (some ⟨jx, 0, none⟩) M 2)]], 3, 86, true⟩)], (Less.refl _ _ _), (i + 1), rfl, by omega, ⟨rfl, rfl, rfl, trivial⟩, rfl, (kb1 (by omega)), ⟨by omega, inF_step (by omega) hc2 hi2⟩⟩
 ·
  refine OA.p (some 10) (.bool false) rfl rfl rfl (Eq.trans (r_bin rfl rfl rfl (b_lss rfl)) (dF hc1)) ?_
  refine OA.nil ?_
  intro _
  refine RA.condF rfl ?_
  refine RA.exit env_ok ?_
  intro _
  refine RA.seq hd ?_
  refine RA.region env_ok ?_
  refine OA.p (some 4) (.bool false) rfl rfl rfl rfl ?_
  refine OA.nil ?_
  intro _
  refine RA.ret env_ok ?_
  refine ⟨.inr rfl, [(.bool false)], (resL_cons rfl resL_nil), (congrArg Value.bool (inF_end (by omega) hi2).symm), (kc1 (by omega))⟩

theorem rLook {σ : Store} (jf jx F M : Nat) (cum : BitVec 32) (fs : List Inn) (hfs : fs.length = F) (hF : F ≤ 1000) (tsn : BitVec 32) (hjf : σ jf = some (oInn fs))  : PS Try.prog noDen 42 [(.agg ⟨[(W cum), (.slice (some ⟨jf, 0, none⟩) F 2), (.slice (some ⟨jx, 0, none⟩) M 2)]⟩), (W tsn)] σ (.int .i64 (lookR cum fs tsn)) := by
 refine PS.body (E := env) env_ok rfl rfl (by show _ ≤ _; exact of_decide_eq_true (by kernel_rfl)) (fun n hd => ?_)
 have lhjf := hd.lt hjf
 refine RA.seq hd ?_
 refine RA.region env_ok ?_
 refine OA.op1 (dst := (some 2)) (v := (Pt n 0 0)) (n1 := (n + 1)) (w := (n, some ⟨[[(W cum), (.slice (some ⟨jf, 0, none⟩) F 2), (.slice (some ⟨jx, 0, none⟩) M 2)]], 3, 86, true⟩)) rfl rfl rfl rfl (by omega) ?_
 refine OA.p (some 4) (.int .i64 0) rfl rfl rfl rfl ?_
 refine OA.nil ?_
 intro _
 refine RA.seq hd ?_
 refine RA.region env_ok ?_
 refine OA.p (some 6) (W tsn) rfl rfl rfl rfl ?_
 refine OA.p (some 7) (Pt n 0 0) rfl rfl rfl rfl ?_
 refine OA.p (some 8) (W cum) rfl rfl rfl (r_load1 rfl rfl rfl rfl rfl get_here rfl rfl) ?_
 refine OA.p (some 9) (W (tsn - cum)) rfl rfl rfl (r_bin rfl rfl rfl (b_subW tsn cum)) ?_
 refine OA.p (some 5) (W (tsn - cum)) rfl rfl rfl rfl ?_
 refine OA.nil ?_
 intro _
 refine RA.seq hd ?_
 refine RA.block ?_
 refine RA.seq hd ?_
 refine RA.region env_ok ?_
 refine OA.p (some 11) (W (tsn - cum)) rfl rfl rfl rfl ?_
 by_cases hc1 : ((tsn - cum).toNat : Int) = 0
 ·
  refine OA.p (some 12) (.bool true) rfl rfl rfl (Eq.trans (r_bin rfl rfl rfl (b_eql rfl)) (dT hc1)) ?_
  refine OA.p (some 13) (.bool true) rfl rfl rfl rfl ?_
  refine OA.off (dst := (some 14)) rfl rfl rfl ?_
  refine OA.off (dst := (some 15)) rfl rfl rfl ?_
  refine OA.p (some 16) (.bool true) rfl rfl rfl rfl ?_
  refine OA.p (some 10) (.bool true) rfl rfl rfl rfl ?_
  refine OA.nil ?_
  intro _
  refine RA.condT rfl ?_
  refine RA.seq hd ?_
  refine RA.region env_ok ?_
  refine OA.p (some 4) (.int .i64 2) rfl rfl rfl rfl ?_
  refine OA.nil ?_
  intro _
  refine RA.ret env_ok ?_
  refine ⟨.inr rfl, [(.int .i64 2)], (resL_cons rfl resL_nil), (congrArg (Value.int .i64) (by unfold lookR; rw [if_pos hc1])), (kc1 (by omega))⟩
 ·
  refine OA.p (some 12) (.bool false) rfl rfl rfl (Eq.trans (r_bin rfl rfl rfl (b_eql rfl)) (dF hc1)) ?_
  refine OA.p (some 13) (.bool false) rfl rfl rfl rfl ?_
  refine OA.p (some 14) (W (tsn - cum)) rfl rfl rfl rfl ?_
  by_cases hc2 : 2147483648 < ((tsn - cum).toNat : Int)
  ·
   refine OA.p (some 15) (.bool true) rfl rfl rfl (Eq.trans (r_bin rfl rfl rfl (b_gtr rfl)) (dT hc2)) ?_
   refine OA.p (some 16) (.bool true) rfl rfl rfl rfl ?_
   refine OA.p (some 10) (.bool true) rfl rfl rfl rfl ?_
   refine OA.nil ?_
   intro _
   refine RA.condT rfl ?_
   refine RA.seq hd ?_
   refine RA.region env_ok ?_
   refine OA.p (some 4) (.int .i64 2) rfl rfl rfl rfl ?_
   refine OA.nil ?_
   intro _
   refine RA.ret env_ok ?_
   refine ⟨.inr rfl, [(.int .i64 2)], (resL_cons rfl resL_nil), (congrArg (Value.int .i64) (by unfold lookR; rw [if_neg hc1, if_pos hc2])), (kc1 (by omega))⟩
  ·
   refine OA.p (some 15) (.bool false) rfl rfl rfl (Eq.trans (r_bin rfl rfl rfl (b_gtr rfl)) (dF hc2)) ?_
   refine OA.p (some 16) (.bool false) rfl rfl rfl rfl ?_
   refine OA.p (some 10) (.bool false) rfl rfl rfl rfl ?_
   refine OA.nil ?_
   intro _
   refine RA.condF rfl ?_
   refine RA.seq hd ?_
   refine RA.region env_ok ?_
   refine OA.p (some 18) (W (tsn - cum)) rfl rfl rfl rfl ?_
   by_cases hc3 : 1000 < ((tsn - cum).toNat : Int)
   ·
    refine OA.p (some 19) (.bool true) rfl rfl rfl (Eq.trans (r_bin rfl rfl rfl (b_gtr rfl)) (dT hc3)) ?_
    refine OA.p (some 17) (.bool true) rfl rfl rfl rfl ?_
    refine OA.nil ?_
    intro _
    refine RA.condT rfl ?_
    refine RA.seq hd ?_
    refine RA.region env_ok ?_
    refine OA.p (some 4) (.int .i64 3) rfl rfl rfl rfl ?_
    refine OA.nil ?_
    intro _
    refine RA.ret env_ok ?_
    refine ⟨.inr rfl, [(.int .i64 3)], (resL_cons rfl resL_nil), (congrArg (Value.int .i64) (by unfold lookR; rw [if_neg hc1, if_neg hc2, if_pos hc3])), (kc1 (by omega))⟩
   ·
    refine OA.p (some 19) (.bool false) rfl rfl rfl (Eq.trans (r_bin rfl rfl rfl (b_gtr rfl)) (dF hc3)) ?_
    refine OA.p (some 17) (.bool false) rfl rfl rfl rfl ?_
    refine OA.nil ?_
    intro _
    refine RA.condF rfl ?_
    refine RA.seq hd ?_
    refine RA.region env_ok ?_
    refine OA.p (some 21) (.agg ⟨[(W cum), (.slice (some ⟨jf, 0, none⟩) F 2), (.slice (some ⟨jx, 0, none⟩) M 2)]⟩) rfl rfl rfl (r_loadA rfl rfl rfl rfl get_here rfl rfl rfl) ?_
    refine OA.p (some 22) (W (tsn - cum)) rfl rfl rfl rfl ?_
    refine OA.p (some 23) (.int .i64 (((tsn - cum).toNat : Nat) : Int)) rfl rfl rfl (r_cvt rfl rfl rfl rfl rfl ⟨_, rfl⟩ (i64_eq (by have := ((tsn - cum)).isLt; omega))) ?_
    by_cases hc4 : (inF (((tsn - cum).toNat : Nat) : Int) fs) = true
    ·
     refine OA.callP (dst := (some 24)) (all := [(.agg ⟨[(W cum), (.slice (some ⟨jf, 0, none⟩) F 2), (.slice (some ⟨jx, 0, none⟩) M 2)]⟩), (.int .i64 (((tsn - cum).toNat : Nat) : Int))]) (v := (.bool true)) (hd.of (by omega) (kb1 (by omega))) rfl rfl rfl rfl rfl rfl rfl rfl (PS.to (rHas jf jx F M cum fs (by rw [hfs]) (by omega) (((tsn - cum).toNat : Nat) : Int) (get_there (by omega) hjf)) (show (.bool (inF (((tsn - cum).toNat : Nat) : Int) fs)) = ((.bool true) : Value) from (by first | (rw [hc4]; done) | (rw [hc4]; rfl)))) ?_
     intro n1 hn1
     refine OA.p (some 20) (.bool true) rfl rfl rfl rfl ?_
     refine OA.nil ?_
     intro _
     refine RA.condT rfl ?_
     refine RA.seq hd ?_
     refine RA.region env_ok ?_
     refine OA.p (some 4) (.int .i64 2) rfl rfl rfl rfl ?_
     refine OA.nil ?_
     intro _
     refine RA.ret env_ok ?_
     refine ⟨.inr rfl, [(.int .i64 2)], (resL_cons rfl resL_nil), (congrArg (Value.int .i64) (by unfold lookR; rw [if_neg hc1, if_neg hc2, if_neg hc3, if_pos hc4])), (kc1 (by omega))⟩
    ·
     refine OA.callP (dst := (some 24)) (all := [(.agg ⟨[(W cum), (.slice (some ⟨jf, 0, none⟩) F 2), (.slice (some ⟨jx, 0, none⟩) M 2)]⟩), (.int .i64 (((tsn - cum).toNat : Nat) : Int))]) (v := (.bool false)) (hd.of (by omega) (kb1 (by omega))) rfl rfl rfl rfl rfl rfl rfl rfl (PS.to (rHas jf jx F M cum fs (by rw [hfs]) (by omega) (((tsn - cum).toNat : Nat) : Int) (get_there (by omega) hjf)) (show (.bool (inF (((tsn - cum).toNat : Nat) : Int) fs)) = ((.bool false) : Value) from (by first | (rw [eq_false_of_ne_true hc4]; done) | (rw [eq_false_of_ne_true hc4]; rfl)))) ?_
     intro n2 hn2
     refine OA.p (some 20) (.bool false) rfl rfl rfl rfl ?_
     refine OA.nil ?_
     intro _
     refine RA.condF rfl ?_
     refine RA.skip env_ok ?_
     intro _
     refine RA.seq hd ?_
     refine RA.region env_ok ?_
     refine OA.p (some 4) (.int .i64 1) rfl rfl rfl rfl ?_
     refine OA.nil ?_
     intro _
     refine RA.ret env_ok ?_
     refine ⟨.inr rfl, [(.int .i64 1)], (resL_cons rfl resL_nil), (congrArg (Value.int .i64) (by unfold lookR; rw [if_neg hc1, if_neg hc2, if_neg hc3, if_neg hc4])), (kc1 (by omega))⟩

theorem gDups {n : Nat} {σ : Store} (hd : Dom n σ) (g jp jd K M : Nat) (cum : BitVec 32) (hg : σ g = some ⟨[[(W cum), (.slice (some ⟨jp, 0, none⟩) K 2), (.slice (some ⟨jd, 0, none⟩) M 2)]], 3, 131, true⟩)  : CQ Try.prog noDen 44 [(Pt g 0 0)] n σ (fun v n' d => v = .slice (some ⟨jd, 0, none⟩) M 2 ∧ d = [(g, some ⟨[[(W cum), (.slice (some ⟨jp, 0, none⟩) K 2), (.slice none 0 0)]], 3, 131, true⟩)]) := by
 have lhg := hd.lt hg
 refine CQ.body (E := env) env_ok hd rfl rfl (by show _ ≤ _; exact of_decide_eq_true (by kernel_rfl)) ?_
 refine RA.seq hd ?_
 refine RA.region env_ok ?_
 refine OA.p (some 2) (.slice none 0 0) rfl rfl rfl rfl ?_
 refine OA.nil ?_
 intro _
 refine RA.seq hd ?_
 refine RA.seq hd ?_
 refine RA.region env_ok ?_
 refine OA.p (some 4) (Pt g 0 0) rfl rfl rfl rfl ?_
 refine OA.p (some 5) (.bool false) rfl rfl rfl rfl ?_
 refine OA.nil ?_
 intro _
 refine RA.condF rfl ?_
 refine RA.skip env_ok ?_
 intro _
 refine RA.seq hd ?_
 refine RA.region env_ok ?_
 refine OA.p (some 6) (Pt g 0 0) rfl rfl rfl rfl ?_
 refine OA.p (some 7) (Pt g 0 0) rfl rfl rfl rfl ?_
 refine OA.p (some 8) (Pt g 0 2) rfl rfl rfl rfl ?_
 refine OA.p (some 9) (.slice (some ⟨jd, 0, none⟩) M 2) rfl rfl rfl (r_load1 rfl rfl rfl rfl rfl hg rfl rfl) ?_
 refine OA.p (some 3) (.slice (some ⟨jd, 0, none⟩) M 2) rfl rfl rfl rfl ?_
 refine OA.nil ?_
 intro _
 refine RA.seq hd ?_
 refine RA.region env_ok ?_
 refine OA.p (some 10) (Pt g 0 0) rfl rfl rfl rfl ?_
 refine OA.p (some 11) (Pt g 0 0) rfl rfl rfl rfl ?_
 refine OA.p (some 12) (Pt g 0 2) rfl rfl rfl rfl ?_
 refine OA.op1 (dst := none) (v := (.tuple #[])) (n1 := n) (w := (g, some ⟨[[(W cum), (.slice (some ⟨jp, 0, none⟩) K 2), (.slice none 0 0)]], 3, 131, true⟩)) rfl rfl rfl (r_store rfl rfl rfl rfl rfl rfl rfl hg rfl rfl (Nat.le_of_ble_eq_true rfl) rfl) (by omega) ?_
 refine OA.nil ?_
 intro _
 refine RA.seq hd ?_
 refine RA.region env_ok ?_
 refine OA.p (some 13) (.slice (some ⟨jd, 0, none⟩) M 2) rfl rfl rfl rfl ?_
 refine OA.p (some 2) (.slice (some ⟨jd, 0, none⟩) M 2) rfl rfl rfl rfl ?_
 refine OA.nil ?_
 intro _
 refine RA.ret env_ok ?_
 refine ⟨.inr rfl, [(.slice (some ⟨jd, 0, none⟩) M 2)], (resL_cons rfl resL_nil), [(g, some ⟨[[(W cum), (.slice (some ⟨jp, 0, none⟩) K 2), (.slice none 0 0)]], 3, 131, true⟩)], (Less.refl _ _ _), ⟨rfl, rfl⟩⟩

theorem gSame2 {σ : Store} (ja jb NA NB A B : Nat) (la lb : List Gap) (hla : la.length = NA) (hlb : lb.length = NB) (hA : A ≤ NA) (hB : B ≤ NB) (hNA : NA ≤ 100000) (hNB : NB ≤ 100000) (hja : σ ja = some (oGap la)) (hjb : σ jb = some (oGap lb))  : PS Try.prog noDen 38 [(.slice (some ⟨ja, 0, none⟩) A 2), (.slice (some ⟨jb, 0, none⟩) B 2)] σ (.bool (decide (la.take A = lb.take B))) := by
 refine PS.body (E := env) env_ok rfl rfl (by show _ ≤ _; exact of_decide_eq_true (by kernel_rfl)) (fun n hd => ?_)
 have lhja := hd.lt hja
 have lhjb := hd.lt hjb
 refine RA.seq hd ?_
 refine RA.region env_ok ?_
 refine OA.p (some 4) (.bool false) rfl rfl rfl rfl ?_
 refine OA.nil ?_
 intro _
 refine RA.seq hd ?_
 refine RA.seq hd ?_
 refine RA.region env_ok ?_
 refine OA.p (some 6) (.slice (some ⟨ja, 0, none⟩) A 2) rfl rfl rfl rfl ?_
 refine OA.p (some 7) (.int .i64 ((A : Nat) : Int)) rfl rfl rfl rfl ?_
 refine OA.p (some 8) (.slice (some ⟨jb, 0, none⟩) B 2) rfl rfl rfl rfl ?_
 refine OA.p (some 9) (.int .i64 ((B : Nat) : Int)) rfl rfl rfl rfl ?_
 by_cases hc1 : ((A : Nat) : Int) ≠ ((B : Nat) : Int)
 ·
  refine OA.p (some 10) (.bool true) rfl rfl rfl (Eq.trans (r_bin rfl rfl rfl (b_neq rfl)) (dT hc1)) ?_
  refine OA.nil ?_
  intro _
  refine RA.condT rfl ?_
  refine RA.seq hd ?_
  refine RA.region env_ok ?_
  refine OA.p (some 4) (.bool false) rfl rfl rfl rfl ?_
  refine OA.nil ?_
  intro _
  refine RA.ret env_ok ?_
  refine ⟨.inr rfl, [(.bool false)], (resL_cons rfl resL_nil), (congrArg Value.bool (decide_eq_false (fun hh : la.take A = lb.take B => by have h0 := congrArg List.length hh; rw [List.length_take, List.length_take] at h0; omega)).symm), (fun i hi => by cases hi)⟩
 ·
  refine OA.p (some 10) (.bool false) rfl rfl rfl (Eq.trans (r_bin rfl rfl rfl (b_neq rfl)) (dF hc1)) ?_
  refine OA.nil ?_
  intro _
  refine RA.condF rfl ?_
  refine RA.skip env_ok ?_
  intro _
  refine RA.seq hd ?_
  refine RA.seq hd ?_
  refine RA.region env_ok ?_
  refine OA.p (some 5) (.int .i64 0) rfl rfl rfl rfl ?_
  refine OA.nil ?_
  intro _
  refine RA.block ?_
  refine RA.loop hd (fun kk_ τ n' D => ∃ i : Nat,  kk_ = (A - i) ∧ n ≤ n' ∧ Has τ [(0, (.slice (some ⟨ja, 0, none⟩) A 2)), (1, (.slice (some ⟨jb, 0, none⟩) B 2)), (5, (.int .i64 ((i : Nat) : Int)))] ∧ D = [] ∧ (∀ i ∈ keys D, i < n') ∧ i ≤ A ∧ la.take i = lb.take i) ((A - 0)) ⟨0, rfl, by omega, ⟨rfl, rfl, rfl, trivial⟩, rfl, (fun i hi => by cases hi), ⟨by omega, rfl⟩⟩ ?_
  rintro kn1 τ1 n1 _ ⟨i, rfl, hn1, hHn1, rfl, hKn1, hIn1⟩
  rw [Has.eq hHn1]
  simp only [keys, List.map, List.forall_mem_cons, List.mem_cons, List.not_mem_nil, false_imp_iff, implies_true, and_true] at hKn1
  obtain ⟨hi1, hi2⟩ := hIn1
  refine RA.seq hd ?_
  refine RA.seq hd ?_
  refine RA.region env_ok ?_
  refine OA.p (some 11) (.int .i64 ((i : Nat) : Int)) rfl rfl rfl rfl ?_
  refine OA.p (some 12) (.slice (some ⟨ja, 0, none⟩) A 2) rfl rfl rfl rfl ?_
  refine OA.p (some 13) (.int .i64 ((A : Nat) : Int)) rfl rfl rfl rfl ?_
  by_cases hc2 : ((i : Nat) : Int) < ((A : Nat) : Int)
  ·
   refine OA.p (some 14) (.bool true) rfl rfl rfl (Eq.trans (r_bin rfl rfl rfl (b_lss rfl)) (dT hc2)) ?_
   refine OA.nil ?_
   intro _
   refine RA.condT rfl ?_
   refine RA.skip env_ok ?_
   intro _
   refine RA.seq hd ?_
   refine RA.block ?_
   refine RA.seq hd ?_
   refine RA.par (md := [some [], some [], some [ja], some [ja], some [], some [], some [jb], some [jb], some []]) env_ok (hd.up (by omega)) (by kernel_rfl) ?_
   refine PQ.pure (dst := (some 17)) (v := (.slice (some ⟨ja, 0, none⟩) A 2)) rfl rfl rfl noStore (none_ok _ _) rfl ?_
   refine PQ.pure (dst := (some 18)) (v := (.int .i64 ((i : Nat) : Int))) rfl rfl rfl noStore (none_ok _ _) rfl ?_
   refine PQ.pure (dst := (some 19)) (v := (Pt ja i 0)) rfl rfl rfl (app [(ja, some (oGap la))] noStore) (seen_one (V := []) (D := []) (by kernel_rfl) hja) (r_iaS (l := i) rfl rfl rfl rfl rfl rfl (by omega) (by omega) get_here rfl (by omega)) ?_
   refine PQ.pure (dst := (some 20)) (v := (.agg ⟨(cGap (la.getD i dGap))⟩)) rfl rfl rfl (app [(ja, some (oGap la))] noStore) (seen_one (V := []) (D := []) (by kernel_rfl) hja) (r_loadR (c := cGap) dGap rfl rfl rfl rfl get_here (by rw [hla]; omega) rfl) ?_
   refine PQ.pure (dst := (some 21)) (v := (.slice (some ⟨jb, 0, none⟩) B 2)) rfl rfl rfl noStore (none_ok _ _) rfl ?_
   refine PQ.pure (dst := (some 22)) (v := (.int .i64 ((i : Nat) : Int))) rfl rfl rfl noStore (none_ok _ _) rfl ?_
   refine PQ.pure (dst := (some 23)) (v := (Pt jb i 0)) rfl rfl rfl (app [(jb, some (oGap lb))] noStore) (seen_one (V := []) (D := []) (by kernel_rfl) hjb) (r_iaS (l := i) rfl rfl rfl rfl rfl rfl (by omega) (by omega) get_here rfl (by omega)) ?_
   refine PQ.pure (dst := (some 24)) (v := (.agg ⟨(cGap (lb.getD i dGap))⟩)) rfl rfl rfl (app [(jb, some (oGap lb))] noStore) (seen_one (V := []) (D := []) (by kernel_rfl) hjb) (r_loadR (c := cGap) dGap rfl rfl rfl rfl get_here (by rw [hlb]; omega) rfl) ?_
   by_cases hc3 : (la.getD i dGap) = (lb.getD i dGap)
   ·
    refine PQ.pure (dst := (some 25)) (v := (.bool false)) rfl rfl rfl noStore (none_ok _ _) (Eq.trans (r_neqA (r := (decide ((la.getD i dGap) = (lb.getD i dGap)))) rfl rfl rfl (by kernel_rfl) (aeqG (la.getD i dGap) (lb.getD i dGap))) (ndT hc3)) ?_
    refine PQ.done (d := []) (by kernel_rfl) ?_
    intro _
    refine RA.condF rfl ?_
    refine RA.skip env_ok ?_
    intro _
    refine RA.region env_ok ?_
    refine OA.p (some 15) (.int .i64 ((i : Nat) : Int)) rfl rfl rfl rfl ?_
    refine OA.p (some 16) (.int .i64 (((i + 1) : Nat) : Int)) rfl rfl rfl (r_bin rfl rfl rfl (b_add (i64_eq (by omega)))) ?_
    refine OA.p (some 5) (.int .i64 (((i + 1) : Nat) : Int)) rfl rfl rfl rfl ?_
    refine OA.nil ?_
    refine ⟨(A - (i + 1)), by omega, [], (Less.refl _ _ _), (i + 1), rfl, by omega, ⟨rfl, rfl, rfl, trivial⟩, rfl, (fun i hi => by cases hi), ⟨by omega, by rw [take_succ_getD (d := dGap) (by omega), take_succ_getD (l := lb) (d := dGap) (by omega), hi2, hc3]⟩⟩
   ·
    refine PQ.pure (dst := (some 25)) (v := (.bool true)) rfl rfl rfl noStore (none_ok _ _) (Eq.trans (r_neqA (r := (decide ((la.getD i dGap) = (lb.getD i dGap)))) rfl rfl rfl (by kernel_rfl) (aeqG (la.getD i dGap) (lb.getD i dGap))) (ndF hc3)) ?_
    refine PQ.done (d := []) (by kernel_rfl) ?_
    intro _
    refine RA.condT rfl ?_
    refine RA.seq hd ?_
    refine RA.region env_ok ?_
    refine OA.p (some 4) (.bool false) rfl rfl rfl rfl ?_
    refine OA.nil ?_
    intro _
    refine RA.ret env_ok ?_
    refine ⟨.inr rfl, [(.bool false)], (resL_cons rfl resL_nil), (congrArg Value.bool (decide_eq_false (fun hh : la.take A = lb.take B => hc3 (take_getD hh (by omega) (by omega)))).symm), (fun i hi => by cases hi)⟩
  ·
   refine OA.p (some 14) (.bool false) rfl rfl rfl (Eq.trans (r_bin rfl rfl rfl (b_lss rfl)) (dF hc2)) ?_
   refine OA.nil ?_
   intro _
   refine RA.condF rfl ?_
   refine RA.exit env_ok ?_
   intro _
   refine RA.seq hd ?_
   refine RA.region env_ok ?_
   refine OA.p (some 4) (.bool true) rfl rfl rfl rfl ?_
   refine OA.nil ?_
   intro _
   refine RA.ret env_ok ?_
   refine ⟨.inr rfl, [(.bool true)], (resL_cons rfl resL_nil), (congrArg Value.bool (decide_eq_true (by rw [show A = i from by omega, show B = i from by omega]; exact hi2)).symm), (fun i hi => by cases hi)⟩

theorem rGaps {n : Nat} {σ : Store} (hd : Dom n σ) (jf jx F M : Nat) (cum : BitVec 32) (fs : List Inn) (hfs : fs.length = F) (hF : F ≤ 1000) (K : Nat) (ps : List Gap) (hps : ps.length = K) (hK : K ≤ 1000) (hFI : FI ps fs) (hjf : σ jf = some (oInn fs))  : CQ Try.prog noDen 45 [(.agg ⟨[(W cum), (.slice (some ⟨jf, 0, none⟩) F 2), (.slice (some ⟨jx, 0, none⟩) M 2)]⟩)] n σ (fun v n' d => ∃ i, n ≤ i ∧ i < n' ∧ v = .slice (some ⟨i, 0, none⟩) (min K 16) 2 ∧ d = [(i, some (oGap ps))]) := by
 have lhjf := hd.lt hjf
 refine CQ.body (E := env) env_ok hd rfl rfl (by show _ ≤ _; exact of_decide_eq_true (by kernel_rfl)) ?_
 refine RA.seq hd ?_
 refine RA.region env_ok ?_
 refine OA.op1 (dst := (some 1)) (v := (Pt n 0 0)) (n1 := (n + 1)) (w := (n, some ⟨[[(W cum), (.slice (some ⟨jf, 0, none⟩) F 2), (.slice (some ⟨jx, 0, none⟩) M 2)]], 3, 86, true⟩)) rfl rfl rfl rfl (by omega) ?_
 refine OA.p (some 2) (.slice none 0 0) rfl rfl rfl rfl ?_
 refine OA.nil ?_
 intro _
 refine RA.seq hd ?_
 refine RA.region env_ok ?_
 refine OA.op1 (dst := (some 6)) (v := (.slice (some ⟨(n + 1), 0, none⟩) 0 0)) (n1 := (n + 2)) (w := ((n + 1), some (oGap ([] : List Gap)))) rfl rfl rfl (by kernel_rfl) (by omega) ?_
 refine OA.p (some 3) (.slice (some ⟨(n + 1), 0, none⟩) 0 0) rfl rfl rfl rfl ?_
 refine OA.nil ?_
 intro _
 refine RA.seq hd ?_
 refine RA.seq hd ?_
 refine RA.region env_ok ?_
 refine OA.p (some 4) (.int .i64 1) rfl rfl rfl rfl ?_
 refine OA.nil ?_
 intro _
 refine RA.block ?_
 refine RA.leT (t := 3) (v := (.slice (some ⟨(n + 1), 0, none⟩) 0 0)) (v' := (.slice (some ⟨(n + 1), 0, none⟩) 0 2)) rfl (vle_row _ _ _) ?_
 refine RA.weaken (D' := [(n, some ⟨[[(W cum), (.slice (some ⟨jf, 0, none⟩) F 2), (.slice (some ⟨jx, 0, none⟩) M 2)]], 3, 86, true⟩), ((n + 1), some (oGap ([] : List Gap)))]) hd (Less.of (fac (mm (fun _ => get_here) (fun _ => (get_there (by omega) get_here))) (fac (mm (fun _ => (get_there (by omega) get_here)) (fun _ => get_here)) fan)) (gone_of (by simp only [goneP, memP, List.cons_append, List.nil_append, true_or, or_true, true_and, and_true, or_false] <;> omega))) ?_
 refine RA.loop hd (fun kk_ τ n' D => (∃ v : Nat, ∃ m : Nat, ∃ ko : Nat, kk_ = 1001 - v ∧ (n + 2) ≤ n' ∧ Has τ [(1, (Pt n 0 0)), (3, (.slice (some ⟨ko, 0, none⟩) m 2)), (4, (.int .i64 ((v : Nat) : Int)))] ∧ D = [(n, some ⟨[[(W cum), (.slice (some ⟨jf, 0, none⟩) F 2), (.slice (some ⟨jx, 0, none⟩) M 2)]], 3, 86, true⟩), (ko, some (oGap (ps.take m)))] ∧ (∀ i ∈ keys D, i < n') ∧ 1 ≤ v ∧ v ≤ 1001 ∧ atn ps ((v : Nat) : Int) m ∧ n < ko)) (1001 - 1) (⟨1, 0, (n + 1), rfl, by omega, ⟨rfl, rfl, rfl, trivial⟩, (by rfl), (kb2 (by omega)), ⟨by omega, by omega, atn_0 hFI, by omega⟩⟩) ?_
 rintro kn1 τ1 n1 _ ⟨v, m, ko, rfl, hn1, hHn1, rfl, hKn1, hIn1⟩
 rw [Has.eq hHn1]
 have hKn1_0 : n < n1 := hKn1 _ (by simp only [keys, List.map_cons, List.map_nil, List.mem_cons, true_or, or_true])
 have hKn1_1 : ko < n1 := hKn1 _ (by simp only [keys, List.map_cons, List.map_nil, List.mem_cons, true_or, or_true])
 clear hKn1
 obtain ⟨hv1, hv2, ha, hk1⟩ := hIn1; have hkk := ha.1; have hvv : ((v : Nat) : Int) - 1 = ((v - 1 : Nat) : Int) := by omega
 refine RA.seq hd ?_
 refine RA.seq hd ?_
 refine RA.region env_ok ?_
 refine OA.p (some 7) (.int .i64 ((v : Nat) : Int)) rfl rfl rfl rfl ?_
 by_cases hc1 : ((v : Nat) : Int) ≤ 1000
 ·
  refine OA.p (some 8) (.bool true) rfl rfl rfl (Eq.trans (r_bin rfl rfl rfl (b_leq rfl)) (dT hc1)) ?_
  refine OA.nil ?_
  intro _
  refine RA.condT rfl ?_
  refine RA.skip env_ok ?_
  intro _
  refine RA.seq hd ?_
  refine RA.block ?_
  refine RA.seq hd ?_
  refine RA.region env_ok ?_
  refine OA.p (some 11) (.agg ⟨[(W cum), (.slice (some ⟨jf, 0, none⟩) F 2), (.slice (some ⟨jx, 0, none⟩) M 2)]⟩) rfl rfl rfl (r_loadA rfl rfl rfl rfl get_here rfl rfl rfl) ?_
  refine OA.p (some 12) (.int .i64 ((v : Nat) : Int)) rfl rfl rfl rfl ?_
  by_cases hc2 : (inF ((v : Nat) : Int) fs) = true
  ·
   refine OA.callP (dst := (some 13)) (all := [(.agg ⟨[(W cum), (.slice (some ⟨jf, 0, none⟩) F 2), (.slice (some ⟨jx, 0, none⟩) M 2)]⟩), (.int .i64 ((v : Nat) : Int))]) (v := (.bool true)) (hd.of (by omega) (kb2 (by omega))) rfl rfl rfl rfl rfl rfl rfl rfl (PS.to (rHas jf jx F M cum fs (by rw [hfs]) (by omega) ((v : Nat) : Int) (gt2 (by omega) hjf)) (show (.bool (inF ((v : Nat) : Int) fs)) = ((.bool true) : Value) from (by first | (rw [hc2]; done) | (rw [hc2]; rfl)))) ?_
   intro n2 hn2
   refine OA.p (some 14) (.bool true) rfl rfl rfl rfl ?_
   refine OA.p (some 15) (.agg ⟨[(W cum), (.slice (some ⟨jf, 0, none⟩) F 2), (.slice (some ⟨jx, 0, none⟩) M 2)]⟩) rfl rfl rfl (r_loadA rfl rfl rfl rfl get_here rfl rfl rfl) ?_
   refine OA.p (some 16) (.int .i64 ((v : Nat) : Int)) rfl rfl rfl rfl ?_
   refine OA.p (some 17) (.int .i64 (((v - 1) : Nat) : Int)) rfl rfl rfl (r_bin rfl rfl rfl (b_sub (i64_eq (by omega)))) ?_
   by_cases hc3 : (inF (((v - 1) : Nat) : Int) fs) = true
   ·
    refine OA.callP (dst := (some 18)) (all := [(.agg ⟨[(W cum), (.slice (some ⟨jf, 0, none⟩) F 2), (.slice (some ⟨jx, 0, none⟩) M 2)]⟩), (.int .i64 (((v - 1) : Nat) : Int))]) (v := (.bool true)) (hd.of (by omega) (kb2 (by omega))) rfl rfl rfl rfl rfl rfl rfl rfl (PS.to (rHas jf jx F M cum fs (by rw [hfs]) (by omega) (((v - 1) : Nat) : Int) (gt2 (by omega) hjf)) (show (.bool (inF (((v - 1) : Nat) : Int) fs)) = ((.bool true) : Value) from (by first | (rw [hc3]; done) | (rw [hc3]; rfl)))) ?_
    intro n3 hn3
    refine OA.p (some 19) (.bool false) rfl rfl rfl rfl ?_
    refine OA.p (some 20) (.bool false) rfl rfl rfl rfl ?_
    refine OA.nil ?_
    intro _
    refine RA.condF rfl ?_
    refine RA.skip env_ok ?_
    intro _
    refine RA.region env_ok ?_
    refine OA.p (some 9) (.int .i64 ((v : Nat) : Int)) rfl rfl rfl rfl ?_
    refine OA.p (some 10) (.int .i64 (((v + 1) : Nat) : Int)) rfl rfl rfl (r_bin rfl rfl rfl (b_add (i64_eq (by omega)))) ?_
    refine OA.p (some 4) (.int .i64 (((v + 1) : Nat) : Int)) rfl rfl rfl rfl ?_
    refine OA.nil ?_
    refine ⟨1001 - (v + 1), by omega, [(n, some ⟨[[(W cum), (.slice (some ⟨jf, 0, none⟩) F 2), (.slice (some ⟨jx, 0, none⟩) M 2)]], 3, 86, true⟩), (ko, some (oGap (ps.take m)))], (Less.refl _ _ _), ⟨(v + 1), m, ko, rfl, by omega, ⟨rfl, rfl, rfl, trivial⟩, rfl, (kb2 (by omega)), ⟨by omega, by omega, (show ((v + 1 : Nat) : Int) = ((v : Nat) : Int) + 1 by omega) ▸ gap_none hFI (by omega) ha (fun hh => hh.2 (by rw [hvv]; exact hc3)), by omega⟩⟩⟩
   ·
    refine OA.callP (dst := (some 18)) (all := [(.agg ⟨[(W cum), (.slice (some ⟨jf, 0, none⟩) F 2), (.slice (some ⟨jx, 0, none⟩) M 2)]⟩), (.int .i64 (((v - 1) : Nat) : Int))]) (v := (.bool false)) (hd.of (by omega) (kb2 (by omega))) rfl rfl rfl rfl rfl rfl rfl rfl (PS.to (rHas jf jx F M cum fs (by rw [hfs]) (by omega) (((v - 1) : Nat) : Int) (gt2 (by omega) hjf)) (show (.bool (inF (((v - 1) : Nat) : Int) fs)) = ((.bool false) : Value) from (by first | (rw [eq_false_of_ne_true hc3]; done) | (rw [eq_false_of_ne_true hc3]; rfl)))) ?_
    intro n4 hn4
    refine OA.p (some 19) (.bool true) rfl rfl rfl rfl ?_
    refine OA.p (some 20) (.bool true) rfl rfl rfl rfl ?_
    refine OA.nil ?_
    intro _
    refine RA.condT rfl ?_
    refine RA.seq hd ?_
    refine RA.region env_ok ?_
    refine OA.p (some 21) (.int .i64 ((v : Nat) : Int)) rfl rfl rfl rfl ?_
    refine OA.p (some 5) (.int .i64 ((v : Nat) : Int)) rfl rfl rfl rfl ?_
    refine OA.nil ?_
    intro _
    refine RA.seq hd ?_
    refine RA.block ?_
    obtain ⟨hgm, hgf⟩ := gap_at hFI (by omega) ha hc2 (by rw [hvv]; exact hc3)
    have hgb := canon_all hFI.1 _ (getD_mem (d := dGap) hgm)
    have hgl := hFI.le ((hFI.in (x := (ps.getD m dGap).to) (by omega)).2 ⟨_, getD_mem (d := dGap) hgm, by omega, by omega⟩)
    refine RA.loop hd (fun kk_ τ n' D => ∃ t1 : Nat,  kk_ = (1001 - t1) ∧ n4 ≤ n' ∧ Has τ [(1, (Pt n 0 0)), (3, (.slice (some ⟨ko, 0, none⟩) m 2)), (4, (.int .i64 ((v : Nat) : Int))), (5, (.int .i64 ((t1 : Nat) : Int)))] ∧ D = [(n, some ⟨[[(W cum), (.slice (some ⟨jf, 0, none⟩) F 2), (.slice (some ⟨jx, 0, none⟩) M 2)]], 3, 86, true⟩), (ko, some (oGap (ps.take m)))] ∧ (∀ i ∈ keys D, i < n') ∧ (ps.getD m dGap).fr ≤ ((t1 : Nat) : Int) ∧ ((t1 : Nat) : Int) ≤ (ps.getD m dGap).to) ((1001 - v)) ⟨v, rfl, by omega, ⟨rfl, rfl, rfl, rfl, trivial⟩, rfl, (kb2 (by omega)), ⟨by omega, by omega⟩⟩ ?_
    rintro kn5 τ5 n5 _ ⟨t1, rfl, hn5, hHn5, rfl, hKn5, hIn5⟩
    rw [Has.eq hHn5]
    have hKn5_0 : n < n5 := hKn5 _ (by simp only [keys, List.map_cons, List.map_nil, List.mem_cons, true_or, or_true])
    have hKn5_1 : ko < n5 := hKn5 _ (by simp only [keys, List.map_cons, List.map_nil, List.mem_cons, true_or, or_true])
    simp only [keys, List.map, List.forall_mem_cons, List.mem_cons, List.not_mem_nil, false_imp_iff, implies_true, and_true] at hKn5
    obtain ⟨ht1, ht2⟩ := hIn5
    refine RA.seq hd ?_
    refine RA.seq hd ?_
    refine RA.region env_ok ?_
    refine OA.p (some 22) (.agg ⟨[(W cum), (.slice (some ⟨jf, 0, none⟩) F 2), (.slice (some ⟨jx, 0, none⟩) M 2)]⟩) rfl rfl rfl (r_loadA rfl rfl rfl rfl get_here rfl rfl rfl) ?_
    refine OA.p (some 23) (.int .i64 ((t1 : Nat) : Int)) rfl rfl rfl rfl ?_
    refine OA.p (some 24) (.int .i64 (((t1 + 1) : Nat) : Int)) rfl rfl rfl (r_bin rfl rfl rfl (b_add (i64_eq (by omega)))) ?_
    by_cases hc4 : (inF (((t1 + 1) : Nat) : Int) fs) = true
    ·
     refine OA.callP (dst := (some 25)) (all := [(.agg ⟨[(W cum), (.slice (some ⟨jf, 0, none⟩) F 2), (.slice (some ⟨jx, 0, none⟩) M 2)]⟩), (.int .i64 (((t1 + 1) : Nat) : Int))]) (v := (.bool true)) (hd.of (by omega) (kb2 (by omega))) rfl rfl rfl rfl rfl rfl rfl rfl (PS.to (rHas jf jx F M cum fs (by rw [hfs]) (by omega) (((t1 + 1) : Nat) : Int) (gt2 (by omega) hjf)) (show (.bool (inF (((t1 + 1) : Nat) : Int) fs)) = ((.bool true) : Value) from (by first | (rw [hc4]; done) | (rw [hc4]; rfl)))) ?_
     intro n6 hn6
     refine OA.nil ?_
     intro _
     refine RA.condT rfl ?_
     refine RA.skip env_ok ?_
     intro _
     refine RA.block ?_
     refine RA.region env_ok ?_
     refine OA.p (some 26) (.int .i64 ((t1 : Nat) : Int)) rfl rfl rfl rfl ?_
     refine OA.p (some 27) (.int .i64 (((t1 + 1) : Nat) : Int)) rfl rfl rfl (r_bin rfl rfl rfl (b_add (i64_eq (by omega)))) ?_
     refine OA.p (some 5) (.int .i64 (((t1 + 1) : Nat) : Int)) rfl rfl rfl rfl ?_
     refine OA.nil ?_
     refine ⟨(1001 - (t1 + 1)), by omega, [(n, some ⟨[[(W cum), (.slice (some ⟨jf, 0, none⟩) F 2), (.slice (some ⟨jx, 0, none⟩) M 2)]], 3, 86, true⟩), (ko, some (oGap (ps.take m)))], (Less.refl _ _ _), (t1 + 1), rfl, by omega, ⟨rfl, rfl, rfl, rfl, trivial⟩, rfl, (kb2 (by omega)), ⟨by omega, by have := gap_more hFI hgm ht1 ht2 hc4; omega⟩⟩
    ·
     refine OA.callP (dst := (some 25)) (all := [(.agg ⟨[(W cum), (.slice (some ⟨jf, 0, none⟩) F 2), (.slice (some ⟨jx, 0, none⟩) M 2)]⟩), (.int .i64 (((t1 + 1) : Nat) : Int))]) (v := (.bool false)) (hd.of (by omega) (kb2 (by omega))) rfl rfl rfl rfl rfl rfl rfl rfl (PS.to (rHas jf jx F M cum fs (by rw [hfs]) (by omega) (((t1 + 1) : Nat) : Int) (gt2 (by omega) hjf)) (show (.bool (inF (((t1 + 1) : Nat) : Int) fs)) = ((.bool false) : Value) from (by first | (rw [eq_false_of_ne_true hc4]; done) | (rw [eq_false_of_ne_true hc4]; rfl)))) ?_
     intro n7 hn7
     refine OA.nil ?_
     intro _
     refine RA.condF rfl ?_
     refine RA.exit env_ok ?_
     intro _
     refine RA.region env_ok ?_
     refine OA.p (some 28) (.slice (some ⟨ko, 0, none⟩) m 2) rfl rfl rfl rfl ?_
     refine OA.p (some 29) (.int .i64 ((v : Nat) : Int)) rfl rfl rfl rfl ?_
     refine OA.p (some 30) (.int .i64 ((t1 : Nat) : Int)) rfl rfl rfl rfl ?_
     refine OA.p (some 31) (.agg ⟨[(.int .i64 ((v : Nat) : Int)), (.int .i64 ((t1 : Nat) : Int))]⟩) rfl rfl rfl (by kernel_rfl) ?_
     refine OA.op1 (dst := (some 32)) (v := (.slice (some ⟨n7, 0, none⟩) 1 0)) (n1 := (n7 + 1)) (w := (n7, some ⟨[[(.int .i64 ((v : Nat) : Int)), (.int .i64 ((t1 : Nat) : Int))]], 2, 60, true⟩)) rfl rfl rfl (by kernel_rfl) (by omega) ?_
     refine OA.op (dst := (some 33)) (v := (.slice (some ⟨(n7 + 1), 0, none⟩) (m + 1) 2)) (n1 := (n7 + 2)) (d1 := [((n7 + 1), some (oGap ((ps.take m) ++ [(Gap.mk ((v : Nat) : Int) ((t1 : Nat) : Int))]))), (ko, none)]) (D' := [((n7 + 1), some (oGap ((ps.take m) ++ [(Gap.mk ((v : Nat) : Int) ((t1 : Nat) : Int))]))), (ko, none), (n7, some ⟨[[(.int .i64 ((v : Nat) : Int)), (.int .i64 ((t1 : Nat) : Int))]], 2, 60, true⟩), (n, some ⟨[[(W cum), (.slice (some ⟨jf, 0, none⟩) F 2), (.slice (some ⟨jx, 0, none⟩) M 2)]], 3, 86, true⟩), (ko, some (oGap (ps.take m)))]) rfl rfl rfl (r_append2x (c := cGap) (x := (Gap.mk ((v : Nat) : Int) ((t1 : Nat) : Int))) (l' := ((ps.take m) ++ [(Gap.mk ((v : Nat) : Int) ((t1 : Nat) : Int))])) rfl rfl rfl rfl rfl rfl rfl rfl rfl rfl (by decide) (gt2 (by omega) get_here) get_here (by rw [(tk_len ha.1)]; omega) (by rw [take_all' (by rw [(tk_len ha.1)])]) (by omega) (of_decide_eq_true (by kernel_rfl)) (by omega)) (by omega) rfl ?_
     refine OA.p (some 3) (.slice (some ⟨(n7 + 1), 0, none⟩) (m + 1) 2) rfl rfl rfl rfl ?_
     refine OA.nil ?_
     intro _
     refine RA.region env_ok ?_
     refine OA.p (some 9) (.int .i64 ((v : Nat) : Int)) rfl rfl rfl rfl ?_
     refine OA.p (some 10) (.int .i64 (((v + 1) : Nat) : Int)) rfl rfl rfl (r_bin rfl rfl rfl (b_add (i64_eq (by omega)))) ?_
     refine OA.p (some 4) (.int .i64 (((v + 1) : Nat) : Int)) rfl rfl rfl rfl ?_
     refine OA.nil ?_
     refine ⟨1001 - (v + 1), by omega, [(n, some ⟨[[(W cum), (.slice (some ⟨jf, 0, none⟩) F 2), (.slice (some ⟨jx, 0, none⟩) M 2)]], 3, 86, true⟩), ((n7 + 1), some (oGap ((ps.take m) ++ [(Gap.mk ((v : Nat) : Int) ((t1 : Nat) : Int))])))], (Less.of (fac (mm (fun _ => get_here) (fun _ => (gt3 (by omega) get_here))) (fac (mm (fun _ => (get_there (by omega) get_here)) (fun _ => get_here)) fan)) (gone_of (by simp only [goneP, memP, List.cons_append, List.nil_append, true_or, or_true, true_and, and_true, or_false] <;> omega))), ⟨(v + 1), (m + 1), (n7 + 1), rfl, by omega, ⟨rfl, rfl, rfl, trivial⟩, (by rw [gap_snoc hgm hgf (gap_stop hFI hgm (by omega) ht1 ht2 hc4)]), (kb2 (by omega)), ⟨by omega, by omega, (show ((v + 1 : Nat) : Int) = ((v : Nat) : Int) + 1 by omega) ▸ gap_next hFI hgm ha hgf, by omega⟩⟩⟩
  ·
   refine OA.callP (dst := (some 13)) (all := [(.agg ⟨[(W cum), (.slice (some ⟨jf, 0, none⟩) F 2), (.slice (some ⟨jx, 0, none⟩) M 2)]⟩), (.int .i64 ((v : Nat) : Int))]) (v := (.bool false)) (hd.of (by omega) (kb2 (by omega))) rfl rfl rfl rfl rfl rfl rfl rfl (PS.to (rHas jf jx F M cum fs (by rw [hfs]) (by omega) ((v : Nat) : Int) (gt2 (by omega) hjf)) (show (.bool (inF ((v : Nat) : Int) fs)) = ((.bool false) : Value) from (by first | (rw [eq_false_of_ne_true hc2]; done) | (rw [eq_false_of_ne_true hc2]; rfl)))) ?_
   intro n8 hn8
   refine OA.p (some 14) (.bool false) rfl rfl rfl rfl ?_
   refine OA.off (dst := (some 15)) rfl rfl rfl ?_
   refine OA.off (dst := (some 16)) rfl rfl rfl ?_
   refine OA.off (dst := (some 17)) rfl rfl rfl ?_
   refine OA.off (dst := (some 18)) rfl rfl rfl ?_
   refine OA.off (dst := (some 19)) rfl rfl rfl ?_
   refine OA.p (some 20) (.bool false) rfl rfl rfl rfl ?_
   refine OA.nil ?_
   intro _
   refine RA.condF rfl ?_
   refine RA.skip env_ok ?_
   intro _
   refine RA.region env_ok ?_
   refine OA.p (some 9) (.int .i64 ((v : Nat) : Int)) rfl rfl rfl rfl ?_
   refine OA.p (some 10) (.int .i64 (((v + 1) : Nat) : Int)) rfl rfl rfl (r_bin rfl rfl rfl (b_add (i64_eq (by omega)))) ?_
   refine OA.p (some 4) (.int .i64 (((v + 1) : Nat) : Int)) rfl rfl rfl rfl ?_
   refine OA.nil ?_
   refine ⟨1001 - (v + 1), by omega, [(n, some ⟨[[(W cum), (.slice (some ⟨jf, 0, none⟩) F 2), (.slice (some ⟨jx, 0, none⟩) M 2)]], 3, 86, true⟩), (ko, some (oGap (ps.take m)))], (Less.refl _ _ _), ⟨(v + 1), m, ko, rfl, by omega, ⟨rfl, rfl, rfl, trivial⟩, rfl, (kb2 (by omega)), ⟨by omega, by omega, (show ((v + 1 : Nat) : Int) = ((v : Nat) : Int) + 1 by omega) ▸ gap_none hFI (by omega) ha (fun hh => hc2 hh.1), by omega⟩⟩⟩
 ·
  refine OA.p (some 8) (.bool false) rfl rfl rfl (Eq.trans (r_bin rfl rfl rfl (b_leq rfl)) (dF hc1)) ?_
  refine OA.nil ?_
  intro _
  refine RA.condF rfl ?_
  refine RA.exit env_ok ?_
  intro _
  refine RA.seq hd ?_
  refine RA.seq hd ?_
  refine RA.region env_ok ?_
  refine OA.p (some 34) (.slice (some ⟨ko, 0, none⟩) m 2) rfl rfl rfl rfl ?_
  refine OA.p (some 35) (.int .i64 ((m : Nat) : Int)) rfl rfl rfl rfl ?_
  by_cases hc5 : 16 < ((m : Nat) : Int)
  ·
   refine OA.p (some 36) (.bool true) rfl rfl rfl (Eq.trans (r_bin rfl rfl rfl (b_gtr rfl)) (dT hc5)) ?_
   refine OA.nil ?_
   intro _
   refine RA.condT rfl ?_
   refine RA.seq hd ?_
   refine RA.region env_ok ?_
   refine OA.p (some 37) (.slice (some ⟨ko, 0, none⟩) m 2) rfl rfl rfl rfl ?_
   refine OA.p (some 38) (.slice (some ⟨ko, 0, none⟩) 16 2) rfl rfl rfl (r_cut2 (a := 0) (b := 16) rfl rfl (fun _ => rfl) (fun _ => rfl) rfl rfl rfl rfl rfl (get_there (by omega) get_here) rfl (by omega) (by omega) (by rw [List.length_map, (tk_len ha.1)]; omega) (by omega) (by omega)) ?_
   refine OA.p (some 2) (.slice (some ⟨ko, 0, none⟩) 16 2) rfl rfl rfl rfl ?_
   refine OA.nil ?_
   intro _
   refine RA.ret env_ok ?_
   refine ⟨.inr rfl, [(.slice (some ⟨ko, 0, none⟩) 16 2)], (resL_cons rfl resL_nil), [(ko, some (oGap (ps.take m)))], (Less.of (fac (mm (fun _ => get_here) (fun _ => (get_there (by omega) get_here))) fan) (gone_of (by simp only [goneP, memP, List.cons_append, List.nil_append, true_or, or_true, true_and, and_true, or_false] <;> omega))), ⟨ko, by omega, by omega, by rw [show min K 16 = 16 from by have := (gap_end hFI (by omega) ha); omega]; rfl, by rw [List.take_of_length_le (by have := (gap_end hFI (by omega) ha); omega)]⟩⟩
  ·
   refine OA.p (some 36) (.bool false) rfl rfl rfl (Eq.trans (r_bin rfl rfl rfl (b_gtr rfl)) (dF hc5)) ?_
   refine OA.nil ?_
   intro _
   refine RA.condF rfl ?_
   refine RA.skip env_ok ?_
   intro _
   refine RA.seq hd ?_
   refine RA.region env_ok ?_
   refine OA.p (some 39) (.slice (some ⟨ko, 0, none⟩) m 2) rfl rfl rfl rfl ?_
   refine OA.p (some 2) (.slice (some ⟨ko, 0, none⟩) m 2) rfl rfl rfl rfl ?_
   refine OA.nil ?_
   intro _
   refine RA.ret env_ok ?_
   refine ⟨.inr rfl, [(.slice (some ⟨ko, 0, none⟩) m 2)], (resL_cons rfl resL_nil), [(ko, some (oGap (ps.take m)))], (Less.of (fac (mm (fun _ => get_here) (fun _ => (get_there (by omega) get_here))) fan) (gone_of (by simp only [goneP, memP, List.cons_append, List.nil_append, true_or, or_true, true_and, and_true, or_false] <;> omega))), ⟨ko, by omega, by omega, by rw [show min K 16 = m from by have := (gap_end hFI (by omega) ha); omega]; rfl, by rw [List.take_of_length_le (by have := (gap_end hFI (by omega) ha); omega)]⟩⟩
end Go.Proofs.Ytmepflkodjdgdaa.Vt
