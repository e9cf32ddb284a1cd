/- Rs5: walks through functions of the program, by the calculus; written by a program of this workplace. -/
import Derived.Test.YtmepflkodjdgdaaRs7
import Derived.Test.YtmepflkodjdgdaaVm6
namespace Go.Proofs.Ytmepflkodjdgdaa.Vt
open Go Go.Proofs Go.Proofs.YtmepflkodjdgdaaV
set_option maxRecDepth 100000
set_option linter.unusedVariables false
set_option linter.unusedSimpArgs false
def szP (l : List Prt) : Nat := (l.map fun x => x.data.size).sum
theorem szP_snoc {l : List Prt} {i : Nat} (h : i < l.length) : szP (l.take (i + 1)) = szP (l.take i) + (l.getD i dPrt).data.size := by
  unfold szP
  rw [List.take_succ_eq_append_getElem h, List.map_append, List.sum_append, get_d h]; simp
theorem szP_all {l : List Prt} {i : Nat} (h : l.length ≤ i) : szP (l.take i) = szP l := by rw [List.take_of_length_le h]
theorem szP_le {l : List Prt} (h : ∀ x ∈ l, x.data.size ≤ 6) : szP l ≤ 6 * l.length := by
  unfold szP
  induction l with
  | nil => simp
  | cons a l ih =>
    have h1 := h a (List.mem_cons_self ..)
    have h2 := ih (fun x hx => h x (List.mem_cons_of_mem _ hx))
    simp only [List.map_cons, List.sum_cons, List.length_cons]; omega
theorem szP_tk {l : List Prt} {i : Nat} (h : ∀ x ∈ l, x.data.size ≤ 6) (hi : i ≤ l.length) : szP (l.take i) ≤ 6 * i := by
  have h1 := szP_le (l := l.take i) (fun x hx => h x (List.mem_of_mem_take hx))
  rw [List.length_take] at h1; omega
theorem szP_perm {a b : List Prt} (h : a.Perm b) : szP a = szP b := by unfold szP; exact (h.map _).sum_nat
theorem less_far {t : BitVec 32} {x y : Prt} (hx : far t x < 64) (hy : far t y < 64) : lsP x y = true ↔ far t x < far t y := by
  unfold lsP
  rw [decide_eq_true_eq]
  unfold lessW
  have h1 := far_dif (t := t) y x
  constructor
  · rintro ⟨h2, h3⟩
    rcases Nat.lt_trichotomy (far t x) (far t y) with h4 | h4 | h4
    · exact h4
    · exact absurd (by rw [far_inj h4]) h2
    · omega
  · intro h2
    refine ⟨fun h3 => ?_, by omega⟩
    have := far_eq (t := t) (BitVec.eq_of_toNat_eq (Int.ofNat_inj.1 h3))
    omega
theorem insL_cons {l : List Prt} {i : Nat} {c : Prt} : insL l i c = l.take i ++ c :: l.drop i := by unfold insL; rw [List.append_assoc]; rfl
theorem insL_perm {l : List Prt} {i : Nat} {c : Prt} : (insL l i c).Perm (l ++ [c]) := by
  rw [insL_cons]
  refine List.Perm.trans List.perm_middle ?_
  rw [List.take_append_drop]
  exact (List.perm_append_comm (l₁ := [c]) (l₂ := l))
theorem insL_at {l : List Prt} {i : Nat} {c : Prt} (hi : i ≤ l.length) : (insL l i c).getD i dPrt = c := by
  rw [insL_cons, List.getD_eq_getElem?_getD, List.getElem?_append_right (by rw [List.length_take]; omega), List.length_take, show i - min i l.length = 0 by omega]; rfl
theorem srt_new {t : BitVec 32} {ps : List Prt} {c : Prt} (h : srt t ps) (hc : far t c < 64) (hn : ∀ x ∈ ps, far t x ≠ far t c) : srt t (insL ps (ps.findIdx (lsP c)) c) := by
  have hle := fi_le (p := lsP c) (l := ps)
  rw [insL_cons]
  refine srt_ins h hc hle (fun x hx => ?_) (fun x hx => ?_)
  · obtain ⟨j, hj, rfl⟩ := List.getElem_of_mem hx
    rw [List.length_take] at hj
    rw [List.getElem_take]
    have hj2 : j < ps.length := by omega
    have h1 := List.not_of_lt_findIdx (p := lsP c) (xs := ps) (i := j) (by omega)
    have hm : ps[j] ∈ ps := List.getElem_mem hj2
    have h2 := h.2 _ hm
    have h3 := hn _ hm
    have h4 : ¬ far t c < far t ps[j] := fun hh => by have := (less_far hc h2).2 hh; rw [this] at h1; simp at h1
    omega
  · obtain ⟨j, hj, rfl⟩ := List.getElem_of_mem hx
    rw [List.length_drop] at hj
    rw [List.getElem_drop]
    have hlt : ps.findIdx (lsP c) < ps.length := by omega
    have h1 := List.findIdx_getElem (p := lsP c) (xs := ps) (w := hlt)
    have h2 := (less_far hc (h.2 _ (List.getElem_mem hlt))).1 h1
    rcases Nat.eq_zero_or_pos j with h3 | h3
    · subst h3; simpa using h2
    · have h4 := List.pairwise_iff_getElem.1 h.1 (ps.findIdx (lsP c)) (ps.findIdx (lsP c) + j) hlt (by omega) (by omega)
      omega
theorem seg_first {l : List Prt} {g u : Nat} (h1 : g ≤ u) (h2 : u < l.length) : dcat ByteArray.empty ((l.drop g).take (u + 1 - g)) = dcat (l.getD g dPrt).data ((l.drop (g + 1)).take (u - g)) := by
  rw [List.drop_eq_getElem_cons (by omega), show u + 1 - g = (u - g) + 1 by omega, List.take_succ_cons, ← get_d (by omega)]
  unfold dcat
  rw [List.foldl_cons, ByteArray.empty_append]
section
variable {t : BitVec 32} {ps q : List Prt} {c : Prt} {K : Nat}
theorem rs_all (hp : ps.Perm q) : (insL ps (ps.findIdx (lsP c)) c).Perm (q ++ [c]) := insL_perm.trans (hp.append_right _)
theorem rs_B (h : srt t ps) (hp : ps.Perm q) (hK : ps.length = K) (hc : far t c < 64) (hn : ∀ x ∈ ps, far t x ≠ far t c) : refB (q ++ [c]) (K + 2) c = (fromL (insL ps (ps.findIdx (lsP c)) c) (ps.findIdx (lsP c))).map (fun g => (insL ps (ps.findIdx (lsP c)) c).getD g dPrt) := by
  have hle := fi_le (p := lsP c) (l := ps)
  have h1 := refB_eq (srt_new h hc hn) (fun x => (rs_all (c := c) hp).mem_iff.symm) (ps.findIdx (lsP c)) (K + 2) (by rw [insL_len]; omega) (by omega)
  rw [insL_at hle] at h1
  exact h1
theorem rs_F (h : srt t ps) (hp : ps.Perm q) (hK : ps.length = K) (hc : far t c < 64) (hn : ∀ x ∈ ps, far t x ≠ far t c) {g : Nat} (hg : fromL (insL ps (ps.findIdx (lsP c)) c) (ps.findIdx (lsP c)) = some g) : g ≤ ps.findIdx (lsP c) ∧ refF (q ++ [c]) (K + 2) ((insL ps (ps.findIdx (lsP c)) c).getD g dPrt) ((insL ps (ps.findIdx (lsP c)) c).getD g dPrt).data = (toL (insL ps (ps.findIdx (lsP c)) c) ((insL ps (ps.findIdx (lsP c)) c).length - ps.findIdx (lsP c)) (ps.findIdx (lsP c))).map (fun u => ((insL ps (ps.findIdx (lsP c)) c).getD u dPrt, dcat ByteArray.empty (((insL ps (ps.findIdx (lsP c)) c).drop g).take (u + 1 - g)))) := by
  have hle := fi_le (p := lsP c) (l := ps)
  have hl : (insL ps (ps.findIdx (lsP c)) c).length = K + 1 := by rw [insL_len, hK]
  obtain ⟨h2, h3⟩ := from_to (l := insL ps (ps.findIdx (lsP c)) c) (by omega) hg
  refine ⟨h2, ?_⟩
  rw [refF_eq (srt_new h hc hn) (fun x => (rs_all (c := c) hp).mem_iff.symm) _ g (K + 2) _ (by omega) rfl (by omega), h3]
  cases hu : toL (insL ps (ps.findIdx (lsP c)) c) ((insL ps (ps.findIdx (lsP c)) c).length - ps.findIdx (lsP c)) (ps.findIdx (lsP c)) with
  | none => rfl
  | some u =>
    have h4 := toL_ge hu
    simp only [Option.map_some]
    rw [seg_first (by omega) (h4.2 (by omega))]
theorem rs_none (h : srt t ps) (hp : ps.Perm q) (hK : ps.length = K) (hc : far t c < 64) (hn : ∀ x ∈ ps, far t x ≠ far t c) (ha : arL (insL ps (ps.findIdx (lsP c)) c) (ps.findIdx (lsP c)) = none) (hB : ¬ refB (q ++ [c]) (K + 2) c = none) : ∃ pf, refB (q ++ [c]) (K + 2) c = some pf ∧ refF (q ++ [c]) (K + 2) pf pf.data = none := by
  rw [rs_B h hp hK hc hn] at hB ⊢
  unfold arL at ha
  cases hg : fromL (insL ps (ps.findIdx (lsP c)) c) (ps.findIdx (lsP c)) with
  | none => rw [hg] at hB; exact absurd rfl hB
  | some g =>
    rw [hg] at ha
    simp only at ha
    refine ⟨_, rfl, ?_⟩
    rw [(rs_F h hp hK hc hn hg).2]
    cases hu : toL (insL ps (ps.findIdx (lsP c)) c) ((insL ps (ps.findIdx (lsP c)) c).length - ps.findIdx (lsP c)) (ps.findIdx (lsP c)) with
    | none => rfl
    | some u => rw [hu] at ha; cases ha
theorem rs_some (h : srt t ps) (hp : ps.Perm q) (hK : ps.length = K) (hc : far t c < 64) (hn : ∀ x ∈ ps, far t x ≠ far t c) (ha : ¬ arL (insL ps (ps.findIdx (lsP c)) c) (ps.findIdx (lsP c)) = none) : ∃ g u, arL (insL ps (ps.findIdx (lsP c)) c) (ps.findIdx (lsP c)) = some (g, u) ∧ g ≤ u ∧ u < K + 1 ∧ refB (q ++ [c]) (K + 2) c = some ((insL ps (ps.findIdx (lsP c)) c).getD g dPrt) ∧ refF (q ++ [c]) (K + 2) ((insL ps (ps.findIdx (lsP c)) c).getD g dPrt) ((insL ps (ps.findIdx (lsP c)) c).getD g dPrt).data = some ((insL ps (ps.findIdx (lsP c)) c).getD u dPrt, dcat ByteArray.empty (((insL ps (ps.findIdx (lsP c)) c).drop g).take (u + 1 - g))) ∧ srt t ((insL ps (ps.findIdx (lsP c)) c).take g ++ (insL ps (ps.findIdx (lsP c)) c).drop (u + 1)) ∧ ((insL ps (ps.findIdx (lsP c)) c).take g ++ (insL ps (ps.findIdx (lsP c)) c).drop (u + 1)).Perm ((q ++ [c]).filter (keepP ((insL ps (ps.findIdx (lsP c)) c).getD g dPrt) ((insL ps (ps.findIdx (lsP c)) c).getD u dPrt))) := by
  have hle := fi_le (p := lsP c) (l := ps)
  have hl : (insL ps (ps.findIdx (lsP c)) c).length = K + 1 := by rw [insL_len, hK]
  unfold arL at ha ⊢
  cases hg : fromL (insL ps (ps.findIdx (lsP c)) c) (ps.findIdx (lsP c)) with
  | none => rw [hg] at ha; exact absurd rfl ha
  | some g =>
    rw [hg] at ha
    simp only at ha ⊢
    obtain ⟨h2, h3⟩ := rs_F h hp hK hc hn hg
    cases hu : toL (insL ps (ps.findIdx (lsP c)) c) ((insL ps (ps.findIdx (lsP c)) c).length - ps.findIdx (lsP c)) (ps.findIdx (lsP c)) with
    | none => rw [hu] at ha; exact absurd rfl ha
    | some u =>
      have h4 := toL_ge hu
      have h5 := h4.2 (by omega)
      rw [hu] at h3
      refine ⟨g, u, rfl, by omega, by omega, ?_, h3, srt_cut (srt_new h hc hn) g (u + 1) (by omega), ?_⟩
      · rw [rs_B h hp hK hc hn, hg]; rfl
      · rw [← keep_eq (srt_new h hc hn) (by omega) h5]
        exact (rs_all hp).filter _
end
theorem far_new {t : BitVec 32} {f : Nat} {x : Prt} (hf : f ≤ 63) (hx : x.tsn = t + BitVec.ofNat 32 f) : far t x = f := by
  unfold far
  rw [hx, BitVec.add_comm, BitVec.add_sub_cancel, BitVec.toNat_ofNat]; omega
theorem sBytes {σ : Store} (p jp K : Nat) (l : List Prt) (hl : l.length = K) (hK : K ≤ 1000) (hsz : ∀ x ∈ l, x.data.size ≤ 6) (hp : σ p = some ⟨[[(.slice (some ⟨jp, 0, none⟩) K 2)]], 1, 122, true⟩) (hjp : σ jp = some (oPrt l))  : PS Try.prog noDen 33 [(Pt p 0 0)] σ (.int .i64 ((szP l : Nat) : Int)) := by
 refine PS.body (E := env) env_ok rfl rfl (by show _ ≤ _; exact of_decide_eq_true (by kernel_rfl)) (fun n hd => ?_)
 have lhp := hd.lt hp
 have lhjp := hd.lt hjp
 refine RA.seq hd ?_
 refine RA.region env_ok ?_
 refine OA.p (some 2) (.int .i64 0) rfl rfl rfl rfl ?_
 refine OA.nil ?_
 intro _
 refine RA.seq hd ?_
 refine RA.seq hd ?_
 refine RA.region env_ok ?_
 refine OA.p (some 6) (Pt p 0 0) rfl rfl rfl rfl ?_
 refine OA.p (some 7) (.bool false) rfl rfl rfl rfl ?_
 refine OA.nil ?_
 intro _
 refine RA.condF rfl ?_
 refine RA.skip env_ok ?_
 intro _
 refine RA.seq hd ?_
 refine RA.region env_ok ?_
 refine OA.p (some 3) (.int .i64 0) rfl rfl rfl rfl ?_
 refine OA.nil ?_
 intro _
 refine RA.seq hd ?_
 refine RA.seq hd ?_
 refine RA.region env_ok ?_
 refine OA.p (some 8) (Pt p 0 0) rfl rfl rfl rfl ?_
 refine OA.p (some 9) (Pt p 0 0) rfl rfl rfl rfl ?_
 refine OA.p (some 10) (Pt p 0 0) rfl rfl rfl rfl ?_
 refine OA.p (some 11) (.slice (some ⟨jp, 0, none⟩) K 2) rfl rfl rfl (r_load1 rfl rfl rfl rfl rfl hp rfl rfl) ?_
 refine OA.p (some 12) (.int .i64 ((K : Nat) : Int)) rfl rfl rfl rfl ?_
 refine OA.p (some 13) (.int .i64 0) rfl rfl rfl rfl ?_
 refine OA.nil ?_
 intro _
 refine RA.block ?_
 refine RA.loop hd (fun kk_ τ n' D => ∃ i : Nat,  kk_ = (K - i) ∧ n ≤ n' ∧ Has τ [(0, (Pt p 0 0)), (3, (.int .i64 (((szP (l.take i)) : Nat) : Int))), (11, (.slice (some ⟨jp, 0, none⟩) K 2)), (12, (.int .i64 ((K : Nat) : Int))), (13, (.int .i64 ((i : Nat) : Int)))] ∧ D = [] ∧ (∀ i ∈ keys D, i < n') ∧ i ≤ K) ((K - 0)) ⟨0, rfl, by omega, ⟨rfl, (by rfl), rfl, rfl, rfl, trivial⟩, rfl, (fun i hi => by cases hi), by omega⟩ ?_
 rintro kn1 τ1 n1 _ ⟨i, rfl, hn1, hHn1, rfl, hKn1, hIn1⟩
 rw [Has.eq hHn1]
 simp only [keys, List.map, List.forall_mem_cons, List.mem_cons, List.not_mem_nil, false_imp_iff, implies_true, and_true] at hKn1
 refine RA.seq hd ?_
 refine RA.region env_ok ?_
 by_cases hc1 : ((i : Nat) : Int) < ((K : Nat) : Int)
 ·
  have hs1 := szP_tk (i := i) hsz (by omega)
  have hs2 := hsz _ (getD_mem (d := dPrt) (l := l) (i := i) (by omega))
  refine OA.p (some 14) (.bool true) rfl rfl rfl (Eq.trans (r_bin rfl rfl rfl (b_lss rfl)) (dT hc1)) ?_
  refine OA.nil ?_
  intro _
  refine RA.seq hd ?_
  refine RA.condT rfl ?_
  refine RA.skip env_ok ?_
  intro _
  refine RA.seq hd ?_
  refine RA.block ?_
  refine RA.seq hd ?_
  refine RA.region env_ok ?_
  refine OA.p (some 15) (Pt jp i 0) rfl rfl rfl (r_iaS (l := i) rfl rfl rfl rfl rfl rfl (by omega) (by omega) hjp rfl (by omega)) ?_
  refine OA.p (some 16) (.agg ⟨(cPrt (l.getD i dPrt))⟩) rfl rfl rfl (r_loadR (c := cPrt) dPrt rfl rfl rfl rfl hjp (by rw [hl]; omega) rfl) ?_
  refine OA.op1 (dst := (some 5)) (v := (Pt n1 0 0)) (n1 := (n1 + 1)) (w := (n1, some ⟨[[(.int .i64 0), (.int .i64 0), (.int .u32 0), (.int .i64 0), (.int .i64 0), (.int .u32 0), (.string ByteArray.empty), (.int .u32 0), (.int .u32 0), (.int .i64 0), (.int .i64 0), (.slice none 0 0), (.slice none 0 0), (.slice none 0 0), (.slice none 0 0)]], 15, 54, true⟩)) rfl rfl rfl rfl (by omega) ?_
  refine OA.op1 (dst := none) (v := (.tuple #[])) (n1 := (n1 + 1)) (w := (n1, some ⟨[(cPrt (l.getD i dPrt))], 15, 54, true⟩)) rfl rfl rfl (r_store rfl rfl rfl rfl rfl rfl rfl get_here rfl rfl (Nat.le_of_ble_eq_true rfl) rfl) (by omega) ?_
  refine OA.nil ?_
  intro _
  refine RA.region env_ok ?_
  refine OA.p (some 17) (.int .i64 (((szP (l.take i)) : Nat) : Int)) rfl rfl rfl rfl ?_
  refine OA.p (some 18) (Pt n1 0 6) rfl rfl rfl rfl ?_
  refine OA.p (some 19) (.string (l.getD i dPrt).data) rfl rfl rfl (r_load1 rfl rfl rfl rfl rfl get_here rfl rfl) ?_
  refine OA.p (some 20) (.int .i64 (((l.getD i dPrt).data.size : Nat) : Int)) rfl rfl rfl rfl ?_
  refine OA.p (some 21) (.int .i64 ((((szP (l.take i)) + (l.getD i dPrt).data.size) : Nat) : Int)) rfl rfl rfl (r_bin rfl rfl rfl (b_add (i64_eq (by omega)))) ?_
  refine OA.p (some 3) (.int .i64 ((((szP (l.take i)) + (l.getD i dPrt).data.size) : Nat) : Int)) rfl rfl rfl rfl ?_
  refine OA.nil ?_
  intro _
  refine RA.region env_ok ?_
  refine OA.p (some 22) (.int .i64 (((i + 1) : Nat) : Int)) rfl rfl rfl (r_bin rfl rfl rfl (b_add (i64_eq (by omega)))) ?_
  refine OA.p (some 13) (.int .i64 (((i + 1) : Nat) : Int)) rfl rfl rfl rfl ?_
  refine OA.nil ?_
  refine ⟨(K - (i + 1)), by omega, [], (Less.of (fun p hp => by simp at hp) (gone_of (by simp only [goneP, memP, List.cons_append, List.nil_append, true_or, or_true, true_and, and_true, or_false] <;> omega))), (i + 1), rfl, by omega, ⟨rfl, (by show Value.int _ _ = Value.int _ _; rw [szP_snoc (by omega)]), rfl, rfl, rfl, trivial⟩, rfl, (fun i hi => by cases hi), by omega⟩
 ·
  refine OA.p (some 14) (.bool false) rfl rfl rfl (Eq.trans (r_bin rfl rfl rfl (b_lss rfl)) (dF hc1)) ?_
  refine OA.nil ?_
  intro _
  refine RA.seq hd ?_
  refine RA.condF rfl ?_
  refine RA.exit env_ok ?_
  intro _
  refine RA.seq hd ?_
  refine RA.region env_ok ?_
  refine OA.p (some 23) (.int .i64 (((szP (l.take i)) : Nat) : Int)) rfl rfl rfl rfl ?_
  refine OA.p (some 2) (.int .i64 (((szP (l.take i)) : Nat) : Int)) rfl rfl rfl rfl ?_
  refine OA.nil ?_
  intro _
  refine RA.ret env_ok ?_
  refine ⟨.inr rfl, [(.int .i64 (((szP (l.take i)) : Nat) : Int))], (resL_cons rfl resL_nil), (by show Value.int _ _ = Value.int _ _; rw [szP_all (by omega)]), (fun i hi => by cases hi)⟩

theorem sNew {n : Nat} {σ : Store} (hd : Dom n σ)    : CQ Try.prog noDen 28 [] n σ (fun v n' d => ∃ q, n ≤ q ∧ q < n' ∧ v = .pointer (some ⟨q, 0, some 0⟩) ∧ d = [(q, some ⟨[[.slice none 0 0]], 1, 122, true⟩)]) := by
 refine CQ.body (E := env) env_ok hd rfl rfl (by show _ ≤ _; exact of_decide_eq_true (by kernel_rfl)) ?_
 refine RA.seq hd ?_
 refine RA.region env_ok ?_
 refine OA.p (some 0) (.pointer none) rfl rfl rfl rfl ?_
 refine OA.nil ?_
 intro _
 refine RA.seq hd ?_
 refine RA.region env_ok ?_
 refine OA.p (some 1) (.agg ⟨[(.slice none 0 0)]⟩) rfl rfl rfl (by kernel_rfl) ?_
 refine OA.op1 (dst := (some 2)) (v := (Pt n 0 0)) (n1 := (n + 1)) (w := (n, some ⟨[[(.slice none 0 0)]], 1, 122, true⟩)) rfl rfl rfl rfl (by omega) ?_
 refine OA.p (some 0) (Pt n 0 0) rfl rfl rfl rfl ?_
 refine OA.nil ?_
 intro _
 refine RA.ret env_ok ?_
 refine ⟨.inr rfl, [(Pt n 0 0)], (resL_cons rfl resL_nil), [(n, some ⟨[[(.slice none 0 0)]], 1, 122, true⟩)], (Less.refl _ _ _), ⟨n, by omega, by omega, rfl, rfl⟩⟩

theorem awakeRs {σ : Store} : PS Try.prog noDen 29 [] σ (.bool true) := PS.closed2 env_ok rfl (L := [⟨73, 54, 15⟩, ⟨99, 60, 2⟩]) ⟨insOkChunk, insOkGap, trivial⟩ (F := 200) (k := 60) (by kernel_rfl) rfl rfl
end Go.Proofs.Ytmepflkodjdgdaa.Vt
