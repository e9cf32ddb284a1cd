/- Pa4: walks through functions of the program, by the calculus; written by a program of this workplace. -/
import Derived.Test.YtnjknabighmedaaPa3
import Derived.Test.YtnjknabighmedaaVm6
namespace Go.Proofs.Ytnjknabighmedaa.Vt
open Go Go.Proofs Go.Proofs.YtnjknabighmedaaV
set_option maxRecDepth 100000
set_option linter.unusedVariables false
set_option linter.unusedSimpArgs false
def actI (l : List Pth) (s : Int) (n : Nat) : Prop := (l.getD n dPth).state = s
instance (l : List Pth) (s : Int) (n : Nat) : Decidable (actI l s n) := by unfold actI; infer_instance
def nxI (l : List Pth) (f : Nat) (s : Int) (m : Nat) : Nat := (List.range m).findIdx (fun i => decide (actI l s ((f + (i + 1)) % l.length)))
def useN (l : List Pth) (f : Nat) : Nat := if ¬ actI l 2 f then f else if nxI l f 1 l.length < l.length then (f + (nxI l f 1 l.length + 1)) % l.length else if nxI l f 0 l.length < l.length then (f + (nxI l f 0 l.length + 1)) % l.length else f
def otherN (l : List Pth) (k : Nat) : Nat := if nxI l k 1 (l.length - 1) < l.length - 1 then (k + (nxI l k 1 (l.length - 1) + 1)) % l.length else k
theorem nxI_eq {l : List Pth} {f m i : Nat} {s : Int} (h0 : 1 ≤ i) (hi : i ≤ m) (h1 : ∀ k, 1 ≤ k → k < i → ¬ actI l s ((f + k) % l.length)) (h2 : actI l s ((f + i) % l.length)) : nxI l f s m = i - 1 := by
  unfold nxI
  rw [List.findIdx_eq (by rw [List.length_range]; omega)]
  simp only [List.getElem_range]
  refine ⟨decide_eq_true (by rw [show i - 1 + 1 = i by omega]; exact h2), fun j hj => decide_eq_false (h1 (j + 1) (by omega) (by omega))⟩
theorem nxI_none {l : List Pth} {f m : Nat} {s : Int} (h1 : ∀ k, 1 ≤ k → k ≤ m → ¬ actI l s ((f + k) % l.length)) : ¬ nxI l f s m < m := by
  intro h
  have h3 := List.findIdx_getElem (p := fun i => decide (actI l s ((f + (i + 1)) % l.length))) (xs := List.range m) (w := by rw [List.length_range]; exact h)
  simp only [List.getElem_range] at h3
  exact h1 _ (by omega) (by unfold nxI at h; omega) (of_decide_eq_true h3)
theorem use_f {l : List Pth} {f : Nat} (h : ¬ (l.getD f dPth).state = 2) : useN l f = f := by unfold useN; exact if_pos h
theorem use_1 {l : List Pth} {f i K : Nat} (hl : l.length = K) (h : (l.getD f dPth).state = 2) (h0 : 1 ≤ i) (hi : i ≤ K) (h1 : ∀ k, 1 ≤ k → k < i → ¬ (l.getD ((f + k) % K) dPth).state = 1) (h2 : (l.getD ((f + i) % K) dPth).state = 1) : useN l f = (f + i) % K := by
  subst hl
  have e := nxI_eq (l := l) (f := f) (m := l.length) (s := 1) h0 hi h1 h2
  unfold useN
  rw [if_neg (fun hh => hh h), e, if_pos (by omega), show i - 1 + 1 = i by omega]
theorem use_0 {l : List Pth} {f i K : Nat} (hl : l.length = K) (h : (l.getD f dPth).state = 2) (h0 : 1 ≤ i) (hi : i ≤ K) (hn : ∀ k, 1 ≤ k → k ≤ K → ¬ (l.getD ((f + k) % K) dPth).state = 1) (h1 : ∀ k, 1 ≤ k → k < i → ¬ (l.getD ((f + k) % K) dPth).state = 0) (h2 : (l.getD ((f + i) % K) dPth).state = 0) : useN l f = (f + i) % K := by
  subst hl
  have e := nxI_eq (l := l) (f := f) (m := l.length) (s := 0) h0 hi h1 h2
  unfold useN
  rw [if_neg (fun hh => hh h), if_neg (nxI_none (l := l) hn), e, if_pos (by omega), show i - 1 + 1 = i by omega]
theorem use_n {l : List Pth} {f K : Nat} (hl : l.length = K) (h : (l.getD f dPth).state = 2) (hn : ∀ k, 1 ≤ k → k ≤ K → ¬ (l.getD ((f + k) % K) dPth).state = 1) (h1 : ∀ k, 1 ≤ k → k ≤ K → ¬ (l.getD ((f + k) % K) dPth).state = 0) : useN l f = f := by
  subst hl
  unfold useN
  rw [if_neg (fun hh => hh h), if_neg (nxI_none (l := l) hn), if_neg (nxI_none (l := l) h1)]
theorem all_more {P : Nat → Prop} {i : Nat} (h : ∀ k, 1 ≤ k → k < i → ¬ P k) (h2 : ¬ P i) : ∀ k, 1 ≤ k → k < i + 1 → ¬ P k := by
  intro k h3 h4 h5
  rcases Nat.lt_or_ge k i with h6 | h6
  · exact h k h3 h6 h5
  · exact h2 (by rw [show i = k by omega]; exact h5)
theorem oth_y {l : List Pth} {f i K : Nat} (hl : l.length = K) (h0 : 1 ≤ i) (hi : i < K) (h1 : ∀ k, 1 ≤ k → k < i → ¬ (l.getD ((f + k) % K) dPth).state = 1) (h2 : (l.getD ((f + i) % K) dPth).state = 1) : otherN l f = (f + i) % K := by
  subst hl
  have e := nxI_eq (l := l) (f := f) (m := l.length - 1) (s := 1) h0 (by omega) h1 h2
  unfold otherN
  rw [e, if_pos (by omega), show i - 1 + 1 = i by omega]
theorem oth_n {l : List Pth} {f K : Nat} (hl : l.length = K) (h1 : ∀ k, 1 ≤ k → k < K → ¬ (l.getD ((f + k) % K) dPth).state = 1) : otherN l f = f := by
  subst hl
  unfold otherN
  rw [if_neg (nxI_none (l := l) (fun k a b => h1 k a (by omega)))]
def othI (l : List Pth) (f i o : Nat) : Prop := (o = f ∧ ∀ k, i < k → k < l.length → ¬ (l.getD ((f + k) % l.length) dPth).state = 1) ∨ ∃ m, i < m ∧ m < l.length ∧ o = (f + m) % l.length ∧ (l.getD ((f + m) % l.length) dPth).state = 1 ∧ ∀ k, i < k → k < m → ¬ (l.getD ((f + k) % l.length) dPth).state = 1
theorem othI_0 {l : List Pth} {f i : Nat} (h : l.length ≤ i + 1) : othI l f i f := .inl ⟨rfl, fun k a b => absurd b (by omega)⟩
theorem othI_y {l : List Pth} {f i K o : Nat} (hl : l.length = K) (h0 : 1 ≤ i) (hi : i < K) (h2 : (l.getD ((f + i) % K) dPth).state = 1) : othI l f (i - 1) ((f + i) % K) := by
  subst hl
  exact .inr ⟨i, by omega, hi, rfl, h2, fun k a b => absurd b (by omega)⟩
theorem othI_n {l : List Pth} {f i K o : Nat} (hl : l.length = K) (h0 : 1 ≤ i) (h2 : ¬ (l.getD ((f + i) % K) dPth).state = 1) (h : othI l f i o) : othI l f (i - 1) o := by
  subst hl
  have hk : ∀ k, ¬ i < k → i - 1 < k → ¬ (l.getD ((f + k) % l.length) dPth).state = 1 := fun k a b => by rw [show k = i by omega]; exact h2
  rcases h with ⟨h3, h4⟩ | ⟨m, h3, h4, h5, h6, h7⟩
  · refine .inl ⟨h3, fun k a b => ?_⟩
    by_cases c : i < k
    · exact h4 k c b
    · exact hk k c a
  · refine .inr ⟨m, by omega, h4, h5, h6, fun k a b => ?_⟩
    by_cases c : i < k
    · exact h7 k c b
    · exact hk k c a
theorem othI_e {l : List Pth} {f i o : Nat} (hi : i = 0) (h : othI l f i o) : otherN l f = o := by
  subst hi
  rcases h with ⟨h3, h4⟩ | ⟨m, h3, h4, h5, h6, h7⟩
  · rw [h3]; exact oth_n rfl (fun k a b => h4 k (by omega) b)
  · rw [h5]; exact oth_y rfl (by omega) h4 (fun k a b => h7 k (by omega) b) h6
def nrmN (x : Int) (K : Nat) : Nat := ((Int.tmod x (K : Int) + (K : Int)) % (K : Int)).toNat
theorem tmod_lt {x : Int} {K : Nat} (h : 0 < K) : - (K : Int) < Int.tmod x (K : Int) ∧ Int.tmod x (K : Int) < (K : Int) := by
  constructor
  · have := Int.lt_tmod_of_pos x (b := (K : Int)) (by omega); omega
  · exact Int.tmod_lt_of_pos x (by omega)
theorem nrm_lt {x : Int} {K : Nat} (h : 0 < K) : nrmN x K < K := by
  unfold nrmN
  have h1 := Int.emod_lt_of_pos (Int.tmod x (K : Int) + (K : Int)) (b := (K : Int)) (by omega)
  have h2 := Int.emod_nonneg (Int.tmod x (K : Int) + (K : Int)) (b := (K : Int)) (by omega)
  omega
theorem nrm_eq {x : Int} {K : Nat} (h : 0 < K) : Int.tmod (Int.tmod x (K : Int) + (K : Int)) (K : Int) = ((nrmN x K : Nat) : Int) := by
  have h0 := tmod_lt (x := x) h
  have h2 := Int.emod_nonneg (Int.tmod x (K : Int) + (K : Int)) (b := (K : Int)) (by omega)
  unfold nrmN
  rw [Int.tmod_eq_emod_of_nonneg (by omega)]
  omega
theorem pUse {σ : Store} (p jp K f : Nat) (l : List Pth) (hl : l.length = K) (hK : K ≤ 1000) (hf : f < K) (hp : σ p = some ⟨[[(.slice (some ⟨jp, 0, none⟩) K 2), (.int .i64 ((f : Nat) : Int))]], 2, 131, true⟩) (hjp : σ jp = some (oPth l))  : PS Try.prog noDen 65 [(Pt p 0 0)] σ (.int .i64 (((useN l f) : Nat) : Int)) := by
 refine PS.body (E := env) env_ok rfl rfl (by show _ ≤ _; exact of_decide_eq_true (by kernel_rfl)) (fun n hd => ?_)
 have lhp := hd.lt hp
 have lhjp := hd.lt hjp
 refine RA.seq hd ?_
 refine RA.region env_ok ?_
 refine OA.p (some 2) (.int .i64 0) rfl rfl rfl rfl ?_
 refine OA.nil ?_
 intro _
 refine RA.seq hd ?_
 refine RA.seq hd ?_
 refine RA.region env_ok ?_
 refine OA.p (some 8) (Pt p 0 0) rfl rfl rfl rfl ?_
 refine OA.p (some 9) (.bool false) rfl rfl rfl rfl ?_
 refine OA.p (some 10) (.bool false) rfl rfl rfl rfl ?_
 refine OA.p (some 11) (Pt p 0 0) rfl rfl rfl rfl ?_
 refine OA.p (some 12) (Pt p 0 0) rfl rfl rfl rfl ?_
 refine OA.p (some 13) (Pt p 0 0) rfl rfl rfl rfl ?_
 refine OA.p (some 14) (.slice (some ⟨jp, 0, none⟩) K 2) rfl rfl rfl (r_load1 rfl rfl rfl rfl rfl hp rfl rfl) ?_
 refine OA.p (some 15) (.int .i64 ((K : Nat) : Int)) rfl rfl rfl rfl ?_
 have hc1 : ¬ (((K : Nat) : Int) = 0) := fun hdd => by exfalso; first | omega | exact absurd hdd (hu0c _ (by omega) (by omega))
 refine OA.p (some 16) (.bool false) rfl rfl rfl (Eq.trans (r_bin rfl rfl rfl (b_eql rfl)) (dF hc1)) ?_
 refine OA.p (some 17) (.bool false) rfl rfl rfl rfl ?_
 refine OA.nil ?_
 intro _
 refine RA.condF rfl ?_
 refine RA.skip env_ok ?_
 intro _
 refine RA.seq hd ?_
 refine RA.seq hd ?_
 refine RA.par (md := [some [], some [], some [], some [p], some [], some [], some [], some [p], none, some [], none, some []]) env_ok (hd.up (by omega)) (by kernel_rfl) ?_
 refine PQ.pure (dst := (some 18)) (v := (Pt p 0 0)) rfl rfl rfl noStore (none_ok _ _) rfl ?_
 refine PQ.pure (dst := (some 19)) (v := (Pt p 0 0)) rfl rfl rfl noStore (none_ok _ _) rfl ?_
 refine PQ.pure (dst := (some 20)) (v := (Pt p 0 0)) rfl rfl rfl noStore (none_ok _ _) rfl ?_
 refine PQ.pure (dst := (some 21)) (v := (.slice (some ⟨jp, 0, none⟩) K 2)) rfl rfl rfl (app [(p, some ⟨[[(.slice (some ⟨jp, 0, none⟩) K 2), (.int .i64 ((f : Nat) : Int))]], 2, 131, true⟩)] noStore) (seen_one (V := []) (D := []) (by kernel_rfl) hp) (r_load1 rfl rfl rfl rfl rfl get_here rfl rfl) ?_
 refine PQ.pure (dst := (some 22)) (v := (Pt p 0 0)) rfl rfl rfl noStore (none_ok _ _) rfl ?_
 refine PQ.pure (dst := (some 23)) (v := (Pt p 0 0)) rfl rfl rfl noStore (none_ok _ _) rfl ?_
 refine PQ.pure (dst := (some 24)) (v := (Pt p 0 1)) rfl rfl rfl noStore (none_ok _ _) rfl ?_
 refine PQ.pure (dst := (some 25)) (v := (.int .i64 ((f : Nat) : Int))) rfl rfl rfl (app [(p, some ⟨[[(.slice (some ⟨jp, 0, none⟩) K 2), (.int .i64 ((f : Nat) : Int))]], 2, 131, true⟩)] noStore) (seen_one (V := []) (D := []) (by kernel_rfl) hp) (r_load1 rfl rfl rfl rfl rfl get_here rfl rfl) ?_
 refine PQ.pure (dst := (some 26)) (v := (Pt jp f 0)) rfl rfl rfl _ (seen_any (V := []) (D := []) (by kernel_rfl)) (r_iaS (l := f) rfl rfl rfl rfl rfl rfl (by omega) (by omega) hjp rfl (by omega)) ?_
 refine PQ.pure (dst := (some 27)) (v := (Pt jp f 2)) rfl rfl rfl noStore (none_ok _ _) rfl ?_
 refine PQ.pure (dst := (some 28)) (v := (.int .i64 (l.getD f dPth).state)) rfl rfl rfl _ (seen_any (V := []) (D := []) (by kernel_rfl)) (r_loadF (c := cPth) dPth rfl rfl rfl rfl rfl hjp (by rw [hl]; omega) rfl) ?_
 by_cases hc2 : (l.getD f dPth).state ≠ 2
 ·
  refine PQ.pure (dst := (some 29)) (v := (.bool true)) rfl rfl rfl noStore (none_ok _ _) (Eq.trans (r_bin rfl rfl rfl (b_neq rfl)) (dT hc2)) ?_
  refine PQ.done (d := []) (by kernel_rfl) ?_
  intro _
  refine RA.condT rfl ?_
  refine RA.seq hd ?_
  refine RA.region env_ok ?_
  refine OA.p (some 30) (Pt p 0 0) rfl rfl rfl rfl ?_
  refine OA.p (some 31) (Pt p 0 0) rfl rfl rfl rfl ?_
  refine OA.p (some 32) (Pt p 0 1) rfl rfl rfl rfl ?_
  refine OA.p (some 33) (.int .i64 ((f : Nat) : Int)) rfl rfl rfl (r_load1 rfl rfl rfl rfl rfl hp rfl rfl) ?_
  refine OA.p (some 2) (.int .i64 ((f : Nat) : Int)) rfl rfl rfl rfl ?_
  refine OA.nil ?_
  intro _
  refine RA.rebase [(0, (Pt p 0 0)), (2, (.int .i64 ((f : Nat) : Int))), (17, (.bool false)), (29, (.bool true))] ⟨rfl, rfl, rfl, rfl, trivial⟩ (fun τr1 => ?_)
  refine RA.ret env_ok ?_
  refine ⟨.inr rfl, [(.int .i64 ((f : Nat) : Int))], (resL_cons rfl resL_nil), (congrArg (fun z : Nat => Value.int .i64 (z : Int)) (Eq.symm (use_f hc2))), (fun i hi => by cases hi)⟩
 ·
  refine PQ.pure (dst := (some 29)) (v := (.bool false)) rfl rfl rfl noStore (none_ok _ _) (Eq.trans (r_bin rfl rfl rfl (b_neq rfl)) (dF hc2)) ?_
  refine PQ.done (d := []) (by kernel_rfl) ?_
  intro _
  refine RA.condF rfl ?_
  refine RA.skip env_ok ?_
  intro _
  refine RA.seq hd ?_
  refine RA.seq hd ?_
  refine RA.region env_ok ?_
  refine OA.p (some 34) (.agg ⟨[(.int .i64 1), (.int .i64 1)]⟩) rfl rfl rfl (by kernel_rfl) ?_
  refine OA.p (some 35) (.agg ⟨[(.int .i64 0), (.int .i64 1)]⟩) rfl rfl rfl (by kernel_rfl) ?_
  refine OA.op1 (dst := (some 36)) (v := (.slice (some ⟨n, 0, none⟩) 2 0)) (n1 := (n + 1)) (w := (n, some ⟨[[(.int .i64 1), (.int .i64 1)], [(.int .i64 0), (.int .i64 1)]], 2, 139, true⟩)) rfl rfl rfl (by kernel_rfl) (by omega) ?_
  refine OA.p (some 37) (.int .i64 2) rfl rfl rfl rfl ?_
  refine OA.p (some 38) (.int .i64 0) rfl rfl rfl rfl ?_
  refine OA.nil ?_
  intro _
  refine RA.rebase [(0, (Pt p 0 0)), (2, (.int .i64 0)), (17, (.bool false)), (29, (.bool false)), (36, (.slice (some ⟨n, 0, none⟩) 2 0)), (37, (.int .i64 2)), (38, (.int .i64 0))] ⟨rfl, rfl, rfl, rfl, rfl, rfl, rfl, trivial⟩ (fun τr2 => ?_)
  refine RA.block ?_
  refine RA.unroll hd ?_
  refine RA.seq hd ?_
  refine RA.region env_ok ?_
  refine OA.p (some 39) (.bool true) rfl rfl rfl (r_bin rfl rfl rfl (b_lss rfl)) ?_
  refine OA.nil ?_
  intro _
  refine RA.seq hd ?_
  refine RA.condT rfl ?_
  refine RA.skip env_ok ?_
  intro _
  refine RA.seq hd ?_
  refine RA.block ?_
  refine RA.seq hd ?_
  refine RA.region env_ok ?_
  refine OA.p (some 40) (Pt n 0 0) rfl rfl rfl (r_iaS (l := 0) rfl rfl rfl rfl rfl rfl (by omega) (by omega) get_here rfl (by omega)) ?_
  refine OA.p (some 41) (.agg ⟨[(.int .i64 1), (.int .i64 1)]⟩) rfl rfl rfl (r_loadA rfl rfl rfl rfl get_here rfl rfl rfl) ?_
  refine OA.op1 (dst := (some 4)) (v := (.pointer (some ⟨(n + 1), 0, some 0⟩))) (n1 := (n + 2)) (w := ((n + 1), some ⟨[[(.int .i64 0), (.int .i64 0)]], 2, 139, true⟩)) rfl rfl rfl rfl (by omega) ?_
  refine OA.op1 (dst := none) (v := (.tuple #[])) (n1 := (n + 2)) (w := ((n + 1), some ⟨[[(.int .i64 1), (.int .i64 1)]], 2, 139, true⟩)) rfl rfl rfl (r_store rfl rfl rfl rfl rfl rfl rfl get_here rfl rfl (Nat.le_of_ble_eq_true rfl) rfl) (by omega) ?_
  refine OA.nil ?_
  intro _
  refine RA.seq hd ?_
  refine RA.region env_ok ?_
  refine OA.p (some 5) (.int .i64 1) rfl rfl rfl rfl ?_
  refine OA.nil ?_
  intro _
  refine RA.block ?_
  refine RA.weaken (D' := [((n + 1), some ⟨[[(.int .i64 1), (.int .i64 1)]], 2, 139, true⟩), (n, some ⟨[[(.int .i64 1), (.int .i64 1)], [(.int .i64 0), (.int .i64 1)]], 2, 139, true⟩)]) hd (Less.of (fac (mm (fun _ => get_here) (fun _ => get_here)) (fac (mm (fun _ => (get_there (by omega) get_here)) (fun _ => (gt2 (by omega) get_here))) fan)) (gone_of (by simp only [goneP, memP, List.cons_append, List.nil_append, true_or, or_true, true_and, and_true, or_false] <;> omega))) ?_
  refine RA.loop hd (fun kk_ τ n' D => ∃ i0 : Nat,  kk_ = (K + 1 - i0) ∧ (n + 2) ≤ n' ∧ Has τ [(0, (Pt p 0 0)), (4, (.pointer (some ⟨(n + 1), 0, some 0⟩))), (5, (.int .i64 ((i0 : Nat) : Int))), (36, (.slice (some ⟨n, 0, none⟩) 2 0)), (37, (.int .i64 2)), (38, (.int .i64 0))] ∧ D = [((n + 1), some ⟨[[(.int .i64 1), (.int .i64 1)]], 2, 139, true⟩), (n, some ⟨[[(.int .i64 1), (.int .i64 1)], [(.int .i64 0), (.int .i64 1)]], 2, 139, true⟩)] ∧ (∀ i ∈ keys D, i < n') ∧ 1 ≤ i0 ∧ i0 ≤ K + 1 ∧ ∀ k, 1 ≤ k → k < i0 → ¬ (l.getD ((f + k) % K) dPth).state = 1) ((K + 1 - 1)) ⟨1, rfl, by omega, ⟨rfl, rfl, rfl, rfl, rfl, rfl, trivial⟩, rfl, (kb2 (by omega)), ⟨by omega, by omega, fun k a b => absurd b (by omega)⟩⟩ ?_
  rintro kn3 τ3 n3 _ ⟨i0, rfl, hn3, hHn3, rfl, hKn3, hIn3⟩
  rw [Has.eq hHn3]
  have hKn3_0 : (n + 1) < n3 := hKn3 _ (by simp only [keys, List.map_cons, List.map_nil, List.mem_cons, true_or, or_true])
  have hKn3_1 : n < n3 := hKn3 _ (by simp only [keys, List.map_cons, List.map_nil, List.mem_cons, true_or, or_true])
  simp only [keys, List.map, List.forall_mem_cons, List.mem_cons, List.not_mem_nil, false_imp_iff, implies_true, and_true] at hKn3
  obtain ⟨hu0a, hu0b, hu0c⟩ := hIn3
  refine RA.seq hd ?_
  refine RA.seq hd ?_
  refine RA.region env_ok ?_
  refine OA.p (some 42) (.int .i64 ((i0 : Nat) : Int)) rfl rfl rfl rfl ?_
  refine OA.p (some 43) (Pt p 0 0) rfl rfl rfl rfl ?_
  refine OA.p (some 44) (Pt p 0 0) rfl rfl rfl rfl ?_
  refine OA.p (some 45) (Pt p 0 0) rfl rfl rfl rfl ?_
  refine OA.p (some 46) (.slice (some ⟨jp, 0, none⟩) K 2) rfl rfl rfl (r_load1 rfl rfl rfl rfl rfl (gt2 (by omega) hp) rfl rfl) ?_
  refine OA.p (some 47) (.int .i64 ((K : Nat) : Int)) rfl rfl rfl rfl ?_
  by_cases hc3 : ((i0 : Nat) : Int) ≤ ((K : Nat) : Int)
  ·
   refine OA.p (some 48) (.bool true) rfl rfl rfl (Eq.trans (r_bin rfl rfl rfl (b_leq rfl)) (dT hc3)) ?_
   refine OA.nil ?_
   intro _
   refine RA.condT rfl ?_
   refine RA.skip env_ok ?_
   intro _
   refine RA.seq hd ?_
   refine RA.block ?_
   refine RA.seq hd ?_
   refine RA.par (md := [some [], some [], some [], some [p], some [], some [], some [], some [], some [], some [p], some [], some [], some []]) env_ok (hd.of (by omega) (kb2 (by omega))) (by kernel_rfl) ?_
   refine PQ.pure (dst := (some 51)) (v := (Pt p 0 0)) rfl rfl rfl noStore (none_ok _ _) rfl ?_
   refine PQ.pure (dst := (some 52)) (v := (Pt p 0 0)) rfl rfl rfl noStore (none_ok _ _) rfl ?_
   refine PQ.pure (dst := (some 53)) (v := (Pt p 0 1)) rfl rfl rfl noStore (none_ok _ _) rfl ?_
   refine PQ.pure (dst := (some 54)) (v := (.int .i64 ((f : Nat) : Int))) rfl rfl rfl (app [(p, some ⟨[[(.slice (some ⟨jp, 0, none⟩) K 2), (.int .i64 ((f : Nat) : Int))]], 2, 131, true⟩)] noStore) (seen_one (V := []) (D := [((n + 1), some ⟨[[(.int .i64 1), (.int .i64 1)]], 2, 139, true⟩), (n, some ⟨[[(.int .i64 1), (.int .i64 1)], [(.int .i64 0), (.int .i64 1)]], 2, 139, true⟩)]) (by kernel_rfl) (gt2 (by omega) hp)) (r_load1 rfl rfl rfl rfl rfl get_here rfl rfl) ?_
   refine PQ.pure (dst := (some 55)) (v := (.int .i64 ((i0 : Nat) : Int))) rfl rfl rfl noStore (none_ok _ _) rfl ?_
   refine PQ.pure (dst := (some 56)) (v := (.int .i64 (((f + i0) : Nat) : Int))) rfl rfl rfl noStore (none_ok _ _) (r_bin rfl rfl rfl (b_add (i64_eq (by omega)))) ?_
   refine PQ.pure (dst := (some 57)) (v := (Pt p 0 0)) rfl rfl rfl noStore (none_ok _ _) rfl ?_
   refine PQ.pure (dst := (some 58)) (v := (Pt p 0 0)) rfl rfl rfl noStore (none_ok _ _) rfl ?_
   refine PQ.pure (dst := (some 59)) (v := (Pt p 0 0)) rfl rfl rfl noStore (none_ok _ _) rfl ?_
   refine PQ.pure (dst := (some 60)) (v := (.slice (some ⟨jp, 0, none⟩) K 2)) rfl rfl rfl (app [(p, some ⟨[[(.slice (some ⟨jp, 0, none⟩) K 2), (.int .i64 ((f : Nat) : Int))]], 2, 131, true⟩)] noStore) (seen_one (V := []) (D := [((n + 1), some ⟨[[(.int .i64 1), (.int .i64 1)]], 2, 139, true⟩), (n, some ⟨[[(.int .i64 1), (.int .i64 1)], [(.int .i64 0), (.int .i64 1)]], 2, 139, true⟩)]) (by kernel_rfl) (gt2 (by omega) hp)) (r_load1 rfl rfl rfl rfl rfl get_here rfl rfl) ?_
   refine PQ.pure (dst := (some 61)) (v := (.int .i64 ((K : Nat) : Int))) rfl rfl rfl noStore (none_ok _ _) rfl ?_
   have hmd4 := Nat.mod_lt (f + i0) (show 0 < K by omega)
   refine PQ.pure (dst := (some 62)) (v := (.int .i64 ((((f + i0) % K) : Nat) : Int))) rfl rfl rfl noStore (none_ok _ _) (r_bin rfl rfl rfl (b_remN (a := (f + i0)) (c := K) (by omega))) ?_
   refine PQ.pure (dst := (some 6)) (v := (.int .i64 ((((f + i0) % K) : Nat) : Int))) rfl rfl rfl noStore (none_ok _ _) rfl ?_
   refine PQ.done (d := []) (by kernel_rfl) ?_
   intro _
   refine RA.seq hd ?_
   refine RA.region env_ok ?_
   refine OA.p (some 63) (Pt p 0 0) rfl rfl rfl rfl ?_
   refine OA.p (some 64) (Pt p 0 0) rfl rfl rfl rfl ?_
   refine OA.p (some 65) (Pt p 0 0) rfl rfl rfl rfl ?_
   refine OA.p (some 66) (.slice (some ⟨jp, 0, none⟩) K 2) rfl rfl rfl (r_load1 rfl rfl rfl rfl rfl (gt2 (by omega) hp) rfl rfl) ?_
   refine OA.p (some 67) (.int .i64 ((((f + i0) % K) : Nat) : Int)) rfl rfl rfl rfl ?_
   refine OA.p (some 68) (.pointer (some ⟨jp, ((f + i0) % K), some 0⟩)) rfl rfl rfl (r_iaS (l := ((f + i0) % K)) rfl rfl rfl rfl rfl rfl (by omega) (by omega) (gt2 (by omega) hjp) rfl (by omega)) ?_
   refine OA.p (some 69) (.pointer (some ⟨jp, ((f + i0) % K), some 2⟩)) rfl rfl rfl rfl ?_
   refine OA.p (some 70) (.int .i64 (l.getD ((f + i0) % K) dPth).state) rfl rfl rfl (r_loadF (c := cPth) dPth rfl rfl rfl rfl rfl (gt2 (by omega) hjp) (by rw [hl]; omega) rfl) ?_
   refine OA.p (some 7) (.int .i64 (l.getD ((f + i0) % K) dPth).state) rfl rfl rfl rfl ?_
   refine OA.nil ?_
   intro _
   refine RA.rebase [(0, (Pt p 0 0)), (4, (.pointer (some ⟨(n + 1), 0, some 0⟩))), (5, (.int .i64 ((i0 : Nat) : Int))), (6, (.int .i64 ((((f + i0) % K) : Nat) : Int))), (7, (.int .i64 (l.getD ((f + i0) % K) dPth).state)), (36, (.slice (some ⟨n, 0, none⟩) 2 0)), (37, (.int .i64 2)), (38, (.int .i64 0)), (48, (.bool true))] ⟨rfl, rfl, rfl, rfl, rfl, rfl, rfl, rfl, rfl, trivial⟩ (fun τr5 => ?_)
   refine RA.seq hd ?_
   refine RA.region env_ok ?_
   refine OA.p (some 71) (.int .i64 (l.getD ((f + i0) % K) dPth).state) rfl rfl rfl rfl ?_
   refine OA.p (some 72) (.pointer (some ⟨(n + 1), 0, some 0⟩)) rfl rfl rfl (r_iaA (l := 0) rfl rfl rfl rfl rfl rfl (by omega) (by omega) (by show 0 + 0 * 1 = 0; omega)) ?_
   refine OA.p (some 73) (.int .i64 1) rfl rfl rfl (r_load1 rfl rfl rfl rfl rfl get_here rfl rfl) ?_
   by_cases hc4 : (l.getD ((f + i0) % K) dPth).state = 1
   ·
    refine OA.p (some 74) (.bool true) rfl rfl rfl (Eq.trans (r_bin rfl rfl rfl (b_eql rfl)) (dT hc4)) ?_
    refine OA.p (some 75) (.bool true) rfl rfl rfl rfl ?_
    refine OA.off (dst := (some 76)) rfl rfl rfl ?_
    refine OA.off (dst := (some 77)) rfl rfl rfl ?_
    refine OA.off (dst := (some 78)) rfl rfl rfl ?_
    refine OA.off (dst := (some 79)) rfl rfl rfl ?_
    refine OA.p (some 80) (.bool true) rfl rfl rfl rfl ?_
    refine OA.nil ?_
    intro _
    refine RA.condT rfl ?_
    refine RA.seq hd ?_
    refine RA.region env_ok ?_
    refine OA.p (some 81) (.int .i64 ((((f + i0) % K) : Nat) : Int)) rfl rfl rfl rfl ?_
    refine OA.p (some 2) (.int .i64 ((((f + i0) % K) : Nat) : Int)) rfl rfl rfl rfl ?_
    refine OA.nil ?_
    intro _
    refine RA.ret env_ok ?_
    refine ⟨.inr rfl, [(.int .i64 ((((f + i0) % K) : Nat) : Int))], (resL_cons rfl resL_nil), (congrArg (fun z : Nat => Value.int .i64 (z : Int)) (Eq.symm (use_1 hl (Classical.not_not.1 hc2) (by omega) (by omega) hu0c hc4))), (kc2 (by omega))⟩
   ·
    refine OA.p (some 74) (.bool false) rfl rfl rfl (Eq.trans (r_bin rfl rfl rfl (b_eql rfl)) (dF hc4)) ?_
    refine OA.p (some 75) (.bool false) rfl rfl rfl rfl ?_
    refine OA.p (some 76) (.int .i64 (l.getD ((f + i0) % K) dPth).state) rfl rfl rfl rfl ?_
    refine OA.p (some 77) (.pointer (some ⟨(n + 1), 0, some 1⟩)) rfl rfl rfl (r_iaA (l := 1) rfl rfl rfl rfl rfl rfl (by omega) (by omega) (by show 0 + 1 * 1 = 1; omega)) ?_
    refine OA.p (some 78) (.int .i64 1) rfl rfl rfl (r_load1 rfl rfl rfl rfl rfl get_here rfl rfl) ?_
    refine OA.p (some 79) (.bool false) rfl rfl rfl (Eq.trans (r_bin rfl rfl rfl (b_eql rfl)) (dF hc4)) ?_
    refine OA.p (some 80) (.bool false) rfl rfl rfl rfl ?_
    refine OA.nil ?_
    intro _
    refine RA.condF rfl ?_
    refine RA.skip env_ok ?_
    intro _
    refine RA.region env_ok ?_
    refine OA.p (some 49) (.int .i64 ((i0 : Nat) : Int)) rfl rfl rfl rfl ?_
    refine OA.p (some 50) (.int .i64 (((i0 + 1) : Nat) : Int)) rfl rfl rfl (r_bin rfl rfl rfl (b_add (i64_eq (by omega)))) ?_
    refine OA.p (some 5) (.int .i64 (((i0 + 1) : Nat) : Int)) rfl rfl rfl rfl ?_
    refine OA.nil ?_
    refine ⟨(K + 1 - (i0 + 1)), by omega, [((n + 1), some ⟨[[(.int .i64 1), (.int .i64 1)]], 2, 139, true⟩), (n, some ⟨[[(.int .i64 1), (.int .i64 1)], [(.int .i64 0), (.int .i64 1)]], 2, 139, true⟩)], (Less.refl _ _ _), (i0 + 1), rfl, by omega, ⟨rfl, rfl, rfl, rfl, rfl, rfl, trivial⟩, rfl, (kb2 (by omega)), ⟨by omega, by omega, all_more (P := fun k => (l.getD ((f + k) % K) dPth).state = 1) hu0c hc4⟩⟩
  ·
   refine OA.p (some 48) (.bool false) rfl rfl rfl (Eq.trans (r_bin rfl rfl rfl (b_leq rfl)) (dF hc3)) ?_
   refine OA.nil ?_
   intro _
   refine RA.condF rfl ?_
   refine RA.exit env_ok ?_
   intro _
   refine RA.region env_ok ?_
   refine OA.p (some 82) (.int .i64 1) rfl rfl rfl (r_bin rfl rfl rfl (b_add (i64_eq (by omega)))) ?_
   refine OA.p (some 38) (.int .i64 1) rfl rfl rfl rfl ?_
   refine OA.nil ?_
   intro _
   refine RA.unroll hd ?_
   refine RA.seq hd ?_
   refine RA.region env_ok ?_
   refine OA.p (some 39) (.bool true) rfl rfl rfl (r_bin rfl rfl rfl (b_lss rfl)) ?_
   refine OA.nil ?_
   intro _
   refine RA.seq hd ?_
   refine RA.condT rfl ?_
   refine RA.skip env_ok ?_
   intro _
   refine RA.seq hd ?_
   refine RA.block ?_
   refine RA.seq hd ?_
   refine RA.region env_ok ?_
   refine OA.p (some 40) (Pt n 1 0) rfl rfl rfl (r_iaS (l := 1) rfl rfl rfl rfl rfl rfl (by omega) (by omega) (get_there (by omega) get_here) rfl (by omega)) ?_
   refine OA.p (some 41) (.agg ⟨[(.int .i64 0), (.int .i64 1)]⟩) rfl rfl rfl (r_loadA rfl rfl rfl rfl (get_there (by omega) get_here) rfl rfl rfl) ?_
   refine OA.op1 (dst := (some 4)) (v := (Pt n3 0 0)) (n1 := (n3 + 1)) (w := (n3, some ⟨[[(.int .i64 0), (.int .i64 0)]], 2, 139, true⟩)) rfl rfl rfl rfl (by omega) ?_
   refine OA.op1 (dst := none) (v := (.tuple #[])) (n1 := (n3 + 1)) (w := (n3, some ⟨[[(.int .i64 0), (.int .i64 1)]], 2, 139, true⟩)) rfl rfl rfl (r_store rfl rfl rfl rfl rfl rfl rfl get_here rfl rfl (Nat.le_of_ble_eq_true rfl) rfl) (by omega) ?_
   refine OA.nil ?_
   intro _
   refine RA.seq hd ?_
   refine RA.region env_ok ?_
   refine OA.p (some 5) (.int .i64 1) rfl rfl rfl rfl ?_
   refine OA.nil ?_
   intro _
   refine RA.block ?_
   refine RA.weaken (D' := [(n3, some ⟨[[(.int .i64 0), (.int .i64 1)]], 2, 139, true⟩), (n, some ⟨[[(.int .i64 1), (.int .i64 1)], [(.int .i64 0), (.int .i64 1)]], 2, 139, true⟩)]) hd (Less.of (fac (mm (fun _ => get_here) (fun _ => get_here)) (fac (mm (fun _ => (get_there (by omega) get_here)) (fun _ => (gt3 (by omega) get_here))) fan)) (gone_of (by simp only [goneP, memP, List.cons_append, List.nil_append, true_or, or_true, true_and, and_true, or_false] <;> omega))) ?_
   refine RA.loop hd (fun kk_ τ n' D => ∃ i1 : Nat,  kk_ = (K + 1 - i1) ∧ (n3 + 1) ≤ n' ∧ Has τ [(0, (Pt p 0 0)), (4, (Pt n3 0 0)), (5, (.int .i64 ((i1 : Nat) : Int))), (36, (.slice (some ⟨n, 0, none⟩) 2 0)), (37, (.int .i64 2)), (38, (.int .i64 1))] ∧ D = [(n3, some ⟨[[(.int .i64 0), (.int .i64 1)]], 2, 139, true⟩), (n, some ⟨[[(.int .i64 1), (.int .i64 1)], [(.int .i64 0), (.int .i64 1)]], 2, 139, true⟩)] ∧ (∀ i ∈ keys D, i < n') ∧ 1 ≤ i1 ∧ i1 ≤ K + 1 ∧ ∀ k, 1 ≤ k → k < i1 → ¬ (l.getD ((f + k) % K) dPth).state = 0) ((K + 1 - 1)) ⟨1, rfl, by omega, ⟨rfl, rfl, rfl, rfl, rfl, rfl, trivial⟩, rfl, (kb2 (by omega)), ⟨by omega, by omega, fun k a b => absurd b (by omega)⟩⟩ ?_
   rintro kn6 τ6 n6 _ ⟨i1, rfl, hn6, hHn6, rfl, hKn6, hIn6⟩
   rw [Has.eq hHn6]
   have hKn6_0 : n3 < n6 := hKn6 _ (by simp only [keys, List.map_cons, List.map_nil, List.mem_cons, true_or, or_true])
   have hKn6_1 : n < n6 := hKn6 _ (by simp only [keys, List.map_cons, List.map_nil, List.mem_cons, true_or, or_true])
   simp only [keys, List.map, List.forall_mem_cons, List.mem_cons, List.not_mem_nil, false_imp_iff, implies_true, and_true] at hKn6
   obtain ⟨hu1a, hu1b, hu1c⟩ := hIn6
   refine RA.seq hd ?_
   refine RA.seq hd ?_
   refine RA.region env_ok ?_
   refine OA.p (some 42) (.int .i64 ((i1 : Nat) : Int)) rfl rfl rfl rfl ?_
   refine OA.p (some 43) (Pt p 0 0) rfl rfl rfl rfl ?_
   refine OA.p (some 44) (Pt p 0 0) rfl rfl rfl rfl ?_
   refine OA.p (some 45) (Pt p 0 0) rfl rfl rfl rfl ?_
   refine OA.p (some 46) (.slice (some ⟨jp, 0, none⟩) K 2) rfl rfl rfl (r_load1 rfl rfl rfl rfl rfl (gt2 (by omega) hp) rfl rfl) ?_
   refine OA.p (some 47) (.int .i64 ((K : Nat) : Int)) rfl rfl rfl rfl ?_
   by_cases hc5 : ((i1 : Nat) : Int) ≤ ((K : Nat) : Int)
   ·
    refine OA.p (some 48) (.bool true) rfl rfl rfl (Eq.trans (r_bin rfl rfl rfl (b_leq rfl)) (dT hc5)) ?_
    refine OA.nil ?_
    intro _
    refine RA.condT rfl ?_
    refine RA.skip env_ok ?_
    intro _
    refine RA.seq hd ?_
    refine RA.block ?_
    refine RA.seq hd ?_
    refine RA.par (md := [some [], some [], some [], some [p], some [], some [], some [], some [], some [], some [p], some [], some [], some []]) env_ok (hd.of (by omega) (kb2 (by omega))) (by kernel_rfl) ?_
    refine PQ.pure (dst := (some 51)) (v := (Pt p 0 0)) rfl rfl rfl noStore (none_ok _ _) rfl ?_
    refine PQ.pure (dst := (some 52)) (v := (Pt p 0 0)) rfl rfl rfl noStore (none_ok _ _) rfl ?_
    refine PQ.pure (dst := (some 53)) (v := (Pt p 0 1)) rfl rfl rfl noStore (none_ok _ _) rfl ?_
    refine PQ.pure (dst := (some 54)) (v := (.int .i64 ((f : Nat) : Int))) rfl rfl rfl (app [(p, some ⟨[[(.slice (some ⟨jp, 0, none⟩) K 2), (.int .i64 ((f : Nat) : Int))]], 2, 131, true⟩)] noStore) (seen_one (V := []) (D := [(n3, some ⟨[[(.int .i64 0), (.int .i64 1)]], 2, 139, true⟩), (n, some ⟨[[(.int .i64 1), (.int .i64 1)], [(.int .i64 0), (.int .i64 1)]], 2, 139, true⟩)]) (by kernel_rfl) (gt2 (by omega) hp)) (r_load1 rfl rfl rfl rfl rfl get_here rfl rfl) ?_
    refine PQ.pure (dst := (some 55)) (v := (.int .i64 ((i1 : Nat) : Int))) rfl rfl rfl noStore (none_ok _ _) rfl ?_
    refine PQ.pure (dst := (some 56)) (v := (.int .i64 (((f + i1) : Nat) : Int))) rfl rfl rfl noStore (none_ok _ _) (r_bin rfl rfl rfl (b_add (i64_eq (by omega)))) ?_
    refine PQ.pure (dst := (some 57)) (v := (Pt p 0 0)) rfl rfl rfl noStore (none_ok _ _) rfl ?_
    refine PQ.pure (dst := (some 58)) (v := (Pt p 0 0)) rfl rfl rfl noStore (none_ok _ _) rfl ?_
    refine PQ.pure (dst := (some 59)) (v := (Pt p 0 0)) rfl rfl rfl noStore (none_ok _ _) rfl ?_
    refine PQ.pure (dst := (some 60)) (v := (.slice (some ⟨jp, 0, none⟩) K 2)) rfl rfl rfl (app [(p, some ⟨[[(.slice (some ⟨jp, 0, none⟩) K 2), (.int .i64 ((f : Nat) : Int))]], 2, 131, true⟩)] noStore) (seen_one (V := []) (D := [(n3, some ⟨[[(.int .i64 0), (.int .i64 1)]], 2, 139, true⟩), (n, some ⟨[[(.int .i64 1), (.int .i64 1)], [(.int .i64 0), (.int .i64 1)]], 2, 139, true⟩)]) (by kernel_rfl) (gt2 (by omega) hp)) (r_load1 rfl rfl rfl rfl rfl get_here rfl rfl) ?_
    refine PQ.pure (dst := (some 61)) (v := (.int .i64 ((K : Nat) : Int))) rfl rfl rfl noStore (none_ok _ _) rfl ?_
    have hmd7 := Nat.mod_lt (f + i1) (show 0 < K by omega)
    refine PQ.pure (dst := (some 62)) (v := (.int .i64 ((((f + i1) % K) : Nat) : Int))) rfl rfl rfl noStore (none_ok _ _) (r_bin rfl rfl rfl (b_remN (a := (f + i1)) (c := K) (by omega))) ?_
    refine PQ.pure (dst := (some 6)) (v := (.int .i64 ((((f + i1) % K) : Nat) : Int))) rfl rfl rfl noStore (none_ok _ _) rfl ?_
    refine PQ.done (d := []) (by kernel_rfl) ?_
    intro _
    refine RA.seq hd ?_
    refine RA.region env_ok ?_
    refine OA.p (some 63) (Pt p 0 0) rfl rfl rfl rfl ?_
    refine OA.p (some 64) (Pt p 0 0) rfl rfl rfl rfl ?_
    refine OA.p (some 65) (Pt p 0 0) rfl rfl rfl rfl ?_
    refine OA.p (some 66) (.slice (some ⟨jp, 0, none⟩) K 2) rfl rfl rfl (r_load1 rfl rfl rfl rfl rfl (gt2 (by omega) hp) rfl rfl) ?_
    refine OA.p (some 67) (.int .i64 ((((f + i1) % K) : Nat) : Int)) rfl rfl rfl rfl ?_
    refine OA.p (some 68) (.pointer (some ⟨jp, ((f + i1) % K), some 0⟩)) rfl rfl rfl (r_iaS (l := ((f + i1) % K)) rfl rfl rfl rfl rfl rfl (by omega) (by omega) (gt2 (by omega) hjp) rfl (by omega)) ?_
    refine OA.p (some 69) (.pointer (some ⟨jp, ((f + i1) % K), some 2⟩)) rfl rfl rfl rfl ?_
    refine OA.p (some 70) (.int .i64 (l.getD ((f + i1) % K) dPth).state) rfl rfl rfl (r_loadF (c := cPth) dPth rfl rfl rfl rfl rfl (gt2 (by omega) hjp) (by rw [hl]; omega) rfl) ?_
    refine OA.p (some 7) (.int .i64 (l.getD ((f + i1) % K) dPth).state) rfl rfl rfl rfl ?_
    refine OA.nil ?_
    intro _
    refine RA.rebase [(0, (Pt p 0 0)), (4, (Pt n3 0 0)), (5, (.int .i64 ((i1 : Nat) : Int))), (6, (.int .i64 ((((f + i1) % K) : Nat) : Int))), (7, (.int .i64 (l.getD ((f + i1) % K) dPth).state)), (36, (.slice (some ⟨n, 0, none⟩) 2 0)), (37, (.int .i64 2)), (38, (.int .i64 1)), (48, (.bool true))] ⟨rfl, rfl, rfl, rfl, rfl, rfl, rfl, rfl, rfl, trivial⟩ (fun τr8 => ?_)
    refine RA.seq hd ?_
    refine RA.region env_ok ?_
    refine OA.p (some 71) (.int .i64 (l.getD ((f + i1) % K) dPth).state) rfl rfl rfl rfl ?_
    refine OA.p (some 72) (Pt n3 0 0) rfl rfl rfl (r_iaA (l := 0) rfl rfl rfl rfl rfl rfl (by omega) (by omega) (by show 0 + 0 * 1 = 0; omega)) ?_
    refine OA.p (some 73) (.int .i64 0) rfl rfl rfl (r_load1 rfl rfl rfl rfl rfl get_here rfl rfl) ?_
    by_cases hc6 : (l.getD ((f + i1) % K) dPth).state = 0
    ·
     refine OA.p (some 74) (.bool true) rfl rfl rfl (Eq.trans (r_bin rfl rfl rfl (b_eql rfl)) (dT hc6)) ?_
     refine OA.p (some 75) (.bool true) rfl rfl rfl rfl ?_
     refine OA.off (dst := (some 76)) rfl rfl rfl ?_
     refine OA.off (dst := (some 77)) rfl rfl rfl ?_
     refine OA.off (dst := (some 78)) rfl rfl rfl ?_
     refine OA.off (dst := (some 79)) rfl rfl rfl ?_
     refine OA.p (some 80) (.bool true) rfl rfl rfl rfl ?_
     refine OA.nil ?_
     intro _
     refine RA.condT rfl ?_
     refine RA.seq hd ?_
     refine RA.region env_ok ?_
     refine OA.p (some 81) (.int .i64 ((((f + i1) % K) : Nat) : Int)) rfl rfl rfl rfl ?_
     refine OA.p (some 2) (.int .i64 ((((f + i1) % K) : Nat) : Int)) rfl rfl rfl rfl ?_
     refine OA.nil ?_
     intro _
     refine RA.ret env_ok ?_
     refine ⟨.inr rfl, [(.int .i64 ((((f + i1) % K) : Nat) : Int))], (resL_cons rfl resL_nil), (congrArg (fun z : Nat => Value.int .i64 (z : Int)) (Eq.symm (use_0 hl (Classical.not_not.1 hc2) (by omega) (by omega) (fun k a b => hu0c k a (by omega)) hu1c hc6))), (kc2 (by omega))⟩
    ·
     refine OA.p (some 74) (.bool false) rfl rfl rfl (Eq.trans (r_bin rfl rfl rfl (b_eql rfl)) (dF hc6)) ?_
     refine OA.p (some 75) (.bool false) rfl rfl rfl rfl ?_
     refine OA.p (some 76) (.int .i64 (l.getD ((f + i1) % K) dPth).state) rfl rfl rfl rfl ?_
     refine OA.p (some 77) (Pt n3 0 1) rfl rfl rfl (r_iaA (l := 1) rfl rfl rfl rfl rfl rfl (by omega) (by omega) (by show 0 + 1 * 1 = 1; omega)) ?_
     refine OA.p (some 78) (.int .i64 1) rfl rfl rfl (r_load1 rfl rfl rfl rfl rfl get_here rfl rfl) ?_
     have hc7 : ¬ ((l.getD ((f + i1) % K) dPth).state = 1) := fun hdd => by exfalso; first | omega | exact absurd hdd (hu0c _ (by omega) (by omega))
     refine OA.p (some 79) (.bool false) rfl rfl rfl (Eq.trans (r_bin rfl rfl rfl (b_eql rfl)) (dF hc7)) ?_
     refine OA.p (some 80) (.bool false) rfl rfl rfl rfl ?_
     refine OA.nil ?_
     intro _
     refine RA.condF rfl ?_
     refine RA.skip env_ok ?_
     intro _
     refine RA.region env_ok ?_
     refine OA.p (some 49) (.int .i64 ((i1 : Nat) : Int)) rfl rfl rfl rfl ?_
     refine OA.p (some 50) (.int .i64 (((i1 + 1) : Nat) : Int)) rfl rfl rfl (r_bin rfl rfl rfl (b_add (i64_eq (by omega)))) ?_
     refine OA.p (some 5) (.int .i64 (((i1 + 1) : Nat) : Int)) rfl rfl rfl rfl ?_
     refine OA.nil ?_
     refine ⟨(K + 1 - (i1 + 1)), by omega, [(n3, some ⟨[[(.int .i64 0), (.int .i64 1)]], 2, 139, true⟩), (n, some ⟨[[(.int .i64 1), (.int .i64 1)], [(.int .i64 0), (.int .i64 1)]], 2, 139, true⟩)], (Less.refl _ _ _), (i1 + 1), rfl, by omega, ⟨rfl, rfl, rfl, rfl, rfl, rfl, trivial⟩, rfl, (kb2 (by omega)), ⟨by omega, by omega, all_more (P := fun k => (l.getD ((f + k) % K) dPth).state = 0) hu1c hc6⟩⟩
   ·
    refine OA.p (some 48) (.bool false) rfl rfl rfl (Eq.trans (r_bin rfl rfl rfl (b_leq rfl)) (dF hc5)) ?_
    refine OA.nil ?_
    intro _
    refine RA.condF rfl ?_
    refine RA.exit env_ok ?_
    intro _
    refine RA.region env_ok ?_
    refine OA.p (some 82) (.int .i64 2) rfl rfl rfl (r_bin rfl rfl rfl (b_add (i64_eq (by omega)))) ?_
    refine OA.p (some 38) (.int .i64 2) rfl rfl rfl rfl ?_
    refine OA.nil ?_
    intro _
    refine RA.unroll hd ?_
    refine RA.seq hd ?_
    refine RA.region env_ok ?_
    refine OA.p (some 39) (.bool false) rfl rfl rfl (r_bin rfl rfl rfl (b_lss rfl)) ?_
    refine OA.nil ?_
    intro _
    refine RA.seq hd ?_
    refine RA.condF rfl ?_
    refine RA.exit env_ok ?_
    intro _
    refine RA.seq hd ?_
    refine RA.region env_ok ?_
    refine OA.p (some 83) (Pt p 0 0) rfl rfl rfl rfl ?_
    refine OA.p (some 84) (Pt p 0 0) rfl rfl rfl rfl ?_
    refine OA.p (some 85) (Pt p 0 1) rfl rfl rfl rfl ?_
    refine OA.p (some 86) (.int .i64 ((f : Nat) : Int)) rfl rfl rfl (r_load1 rfl rfl rfl rfl rfl (gt2 (by omega) hp) rfl rfl) ?_
    refine OA.p (some 2) (.int .i64 ((f : Nat) : Int)) rfl rfl rfl rfl ?_
    refine OA.nil ?_
    intro _
    refine RA.ret env_ok ?_
    refine ⟨.inr rfl, [(.int .i64 ((f : Nat) : Int))], (resL_cons rfl resL_nil), (congrArg (fun z : Nat => Value.int .i64 (z : Int)) (Eq.symm (use_n hl (Classical.not_not.1 hc2) (fun k a b => hu0c k a (by omega)) (fun k a b => hu1c k a (by omega))))), (kc2 (by omega))⟩

theorem pUsl {σ : Store} (jq K f : Nat) (l : List Pth) (hl : l.length = K) (hK : K ≤ 1000) (hf : f < K) (hjq : σ jq = some (oPth l))  : PS Try.prog noDen 92 [(.slice (some ⟨jq, 0, none⟩) K 2), (.int .i64 ((f : Nat) : Int))] σ (.int .i64 (((useN l f) : Nat) : Int)) := by
 refine PS.body (E := env) env_ok rfl rfl (by show _ ≤ _; exact of_decide_eq_true (by kernel_rfl)) (fun n hd => ?_)
 have lhjq := hd.lt hjq
 refine RA.seq hd ?_
 refine RA.region env_ok ?_
 refine OA.p (some 4) (.int .i64 0) rfl rfl rfl rfl ?_
 refine OA.nil ?_
 intro _
 refine RA.seq hd ?_
 refine RA.seq hd ?_
 refine RA.region env_ok ?_
 refine OA.p (some 9) (.slice (some ⟨jq, 0, none⟩) K 2) rfl rfl rfl rfl ?_
 refine OA.p (some 10) (.int .i64 ((f : Nat) : Int)) rfl rfl rfl rfl ?_
 refine OA.p (some 11) (Pt jq f 0) rfl rfl rfl (r_iaS (l := f) rfl rfl rfl rfl rfl rfl (by omega) (by omega) hjq rfl (by omega)) ?_
 refine OA.p (some 12) (Pt jq f 2) rfl rfl rfl rfl ?_
 refine OA.p (some 13) (.int .i64 (l.getD f dPth).state) rfl rfl rfl (r_loadF (c := cPth) dPth rfl rfl rfl rfl rfl hjq (by rw [hl]; omega) rfl) ?_
 by_cases hc1 : (l.getD f dPth).state ≠ 2
 ·
  refine OA.p (some 14) (.bool true) rfl rfl rfl (Eq.trans (r_bin rfl rfl rfl (b_neq rfl)) (dT hc1)) ?_
  refine OA.nil ?_
  intro _
  refine RA.condT rfl ?_
  refine RA.seq hd ?_
  refine RA.region env_ok ?_
  refine OA.p (some 15) (.int .i64 ((f : Nat) : Int)) rfl rfl rfl rfl ?_
  refine OA.p (some 4) (.int .i64 ((f : Nat) : Int)) rfl rfl rfl rfl ?_
  refine OA.nil ?_
  intro _
  refine RA.ret env_ok ?_
  refine ⟨.inr rfl, [(.int .i64 ((f : Nat) : Int))], (resL_cons rfl resL_nil), (congrArg (fun z : Nat => Value.int .i64 (z : Int)) (Eq.symm (use_f hc1))), (fun i hi => by cases hi)⟩
 ·
  refine OA.p (some 14) (.bool false) rfl rfl rfl (Eq.trans (r_bin rfl rfl rfl (b_neq rfl)) (dF hc1)) ?_
  refine OA.nil ?_
  intro _
  refine RA.condF rfl ?_
  refine RA.skip env_ok ?_
  intro _
  refine RA.seq hd ?_
  refine RA.seq hd ?_
  refine RA.region env_ok ?_
  refine OA.p (some 5) (.int .i64 1) rfl rfl rfl rfl ?_
  refine OA.nil ?_
  intro _
  refine RA.block ?_
  refine RA.loop hd (fun kk_ τ n' D => ∃ i0 : Nat,  kk_ = (K + 1 - i0) ∧ n ≤ n' ∧ Has τ [(0, (.slice (some ⟨jq, 0, none⟩) K 2)), (1, (.int .i64 ((f : Nat) : Int))), (5, (.int .i64 ((i0 : Nat) : Int)))] ∧ D = [] ∧ (∀ i ∈ keys D, i < n') ∧ 1 ≤ i0 ∧ i0 ≤ K + 1 ∧ ∀ k, 1 ≤ k → k < i0 → ¬ (l.getD ((f + k) % K) dPth).state = 1) ((K + 1 - 1)) ⟨1, rfl, by omega, ⟨rfl, rfl, rfl, trivial⟩, rfl, (fun i hi => by cases hi), ⟨by omega, by omega, fun k a b => absurd b (by omega)⟩⟩ ?_
  rintro kn1 τ1 n1 _ ⟨i0, rfl, hn1, hHn1, rfl, hKn1, hIn1⟩
  rw [Has.eq hHn1]
  simp only [keys, List.map, List.forall_mem_cons, List.mem_cons, List.not_mem_nil, false_imp_iff, implies_true, and_true] at hKn1
  obtain ⟨hu0a, hu0b, hu0c⟩ := hIn1
  refine RA.seq hd ?_
  refine RA.seq hd ?_
  refine RA.region env_ok ?_
  refine OA.p (some 16) (.int .i64 ((i0 : Nat) : Int)) rfl rfl rfl rfl ?_
  refine OA.p (some 17) (.slice (some ⟨jq, 0, none⟩) K 2) rfl rfl rfl rfl ?_
  refine OA.p (some 18) (.int .i64 ((K : Nat) : Int)) rfl rfl rfl rfl ?_
  by_cases hc2 : ((i0 : Nat) : Int) ≤ ((K : Nat) : Int)
  ·
   refine OA.p (some 19) (.bool true) rfl rfl rfl (Eq.trans (r_bin rfl rfl rfl (b_leq rfl)) (dT hc2)) ?_
   refine OA.nil ?_
   intro _
   refine RA.condT rfl ?_
   refine RA.skip env_ok ?_
   intro _
   refine RA.seq hd ?_
   refine RA.block ?_
   refine RA.seq hd ?_
   refine RA.region env_ok ?_
   refine OA.p (some 22) (.int .i64 ((f : Nat) : Int)) rfl rfl rfl rfl ?_
   refine OA.p (some 23) (.int .i64 ((i0 : Nat) : Int)) rfl rfl rfl rfl ?_
   refine OA.p (some 24) (.int .i64 (((f + i0) : Nat) : Int)) rfl rfl rfl (r_bin rfl rfl rfl (b_add (i64_eq (by omega)))) ?_
   refine OA.p (some 25) (.slice (some ⟨jq, 0, none⟩) K 2) rfl rfl rfl rfl ?_
   refine OA.p (some 26) (.int .i64 ((K : Nat) : Int)) rfl rfl rfl rfl ?_
   have hmd2 := Nat.mod_lt (f + i0) (show 0 < K by omega)
   refine OA.p (some 27) (.int .i64 ((((f + i0) % K) : Nat) : Int)) rfl rfl rfl (r_bin rfl rfl rfl (b_remN (a := (f + i0)) (c := K) (by omega))) ?_
   refine OA.p (some 6) (.int .i64 ((((f + i0) % K) : Nat) : Int)) rfl rfl rfl rfl ?_
   refine OA.nil ?_
   intro _
   refine RA.seq hd ?_
   refine RA.region env_ok ?_
   refine OA.p (some 28) (.slice (some ⟨jq, 0, none⟩) K 2) rfl rfl rfl rfl ?_
   refine OA.p (some 29) (.int .i64 ((((f + i0) % K) : Nat) : Int)) rfl rfl rfl rfl ?_
   refine OA.p (some 30) (.pointer (some ⟨jq, ((f + i0) % K), some 0⟩)) rfl rfl rfl (r_iaS (l := ((f + i0) % K)) rfl rfl rfl rfl rfl rfl (by omega) (by omega) hjq rfl (by omega)) ?_
   refine OA.p (some 31) (.pointer (some ⟨jq, ((f + i0) % K), some 2⟩)) rfl rfl rfl rfl ?_
   refine OA.p (some 32) (.int .i64 (l.getD ((f + i0) % K) dPth).state) rfl rfl rfl (r_loadF (c := cPth) dPth rfl rfl rfl rfl rfl hjq (by rw [hl]; omega) rfl) ?_
   by_cases hc3 : (l.getD ((f + i0) % K) dPth).state = 1
   ·
    refine OA.p (some 33) (.bool true) rfl rfl rfl (Eq.trans (r_bin rfl rfl rfl (b_eql rfl)) (dT hc3)) ?_
    refine OA.nil ?_
    intro _
    refine RA.condT rfl ?_
    refine RA.seq hd ?_
    refine RA.region env_ok ?_
    refine OA.p (some 34) (.int .i64 ((((f + i0) % K) : Nat) : Int)) rfl rfl rfl rfl ?_
    refine OA.p (some 4) (.int .i64 ((((f + i0) % K) : Nat) : Int)) rfl rfl rfl rfl ?_
    refine OA.nil ?_
    intro _
    refine RA.ret env_ok ?_
    refine ⟨.inr rfl, [(.int .i64 ((((f + i0) % K) : Nat) : Int))], (resL_cons rfl resL_nil), (congrArg (fun z : Nat => Value.int .i64 (z : Int)) (Eq.symm (use_1 hl (Classical.not_not.1 hc1) (by omega) (by omega) hu0c hc3))), (fun i hi => by cases hi)⟩
   ·
    refine OA.p (some 33) (.bool false) rfl rfl rfl (Eq.trans (r_bin rfl rfl rfl (b_eql rfl)) (dF hc3)) ?_
    refine OA.nil ?_
    intro _
    refine RA.condF rfl ?_
    refine RA.skip env_ok ?_
    intro _
    refine RA.region env_ok ?_
    refine OA.p (some 20) (.int .i64 ((i0 : Nat) : Int)) rfl rfl rfl rfl ?_
    refine OA.p (some 21) (.int .i64 (((i0 + 1) : Nat) : Int)) rfl rfl rfl (r_bin rfl rfl rfl (b_add (i64_eq (by omega)))) ?_
    refine OA.p (some 5) (.int .i64 (((i0 + 1) : Nat) : Int)) rfl rfl rfl rfl ?_
    refine OA.nil ?_
    refine ⟨(K + 1 - (i0 + 1)), by omega, [], (Less.refl _ _ _), (i0 + 1), rfl, by omega, ⟨rfl, rfl, rfl, trivial⟩, rfl, (fun i hi => by cases hi), ⟨by omega, by omega, all_more (P := fun k => (l.getD ((f + k) % K) dPth).state = 1) hu0c hc3⟩⟩
  ·
   refine OA.p (some 19) (.bool false) rfl rfl rfl (Eq.trans (r_bin rfl rfl rfl (b_leq rfl)) (dF hc2)) ?_
   refine OA.nil ?_
   intro _
   refine RA.condF rfl ?_
   refine RA.exit env_ok ?_
   intro _
   refine RA.seq hd ?_
   refine RA.seq hd ?_
   refine RA.region env_ok ?_
   refine OA.p (some 7) (.int .i64 1) rfl rfl rfl rfl ?_
   refine OA.nil ?_
   intro _
   refine RA.block ?_
   refine RA.loop hd (fun kk_ τ n' D => ∃ i1 : Nat,  kk_ = (K + 1 - i1) ∧ n1 ≤ n' ∧ Has τ [(0, (.slice (some ⟨jq, 0, none⟩) K 2)), (1, (.int .i64 ((f : Nat) : Int))), (7, (.int .i64 ((i1 : Nat) : Int)))] ∧ D = [] ∧ (∀ i ∈ keys D, i < n') ∧ 1 ≤ i1 ∧ i1 ≤ K + 1 ∧ ∀ k, 1 ≤ k → k < i1 → ¬ (l.getD ((f + k) % K) dPth).state = 0) ((K + 1 - 1)) ⟨1, rfl, by omega, ⟨rfl, rfl, rfl, trivial⟩, rfl, (fun i hi => by cases hi), ⟨by omega, by omega, fun k a b => absurd b (by omega)⟩⟩ ?_
   rintro kn3 τ3 n3 _ ⟨i1, rfl, hn3, hHn3, rfl, hKn3, hIn3⟩
   rw [Has.eq hHn3]
   simp only [keys, List.map, List.forall_mem_cons, List.mem_cons, List.not_mem_nil, false_imp_iff, implies_true, and_true] at hKn3
   obtain ⟨hu1a, hu1b, hu1c⟩ := hIn3
   refine RA.seq hd ?_
   refine RA.seq hd ?_
   refine RA.region env_ok ?_
   refine OA.p (some 35) (.int .i64 ((i1 : Nat) : Int)) rfl rfl rfl rfl ?_
   refine OA.p (some 36) (.slice (some ⟨jq, 0, none⟩) K 2) rfl rfl rfl rfl ?_
   refine OA.p (some 37) (.int .i64 ((K : Nat) : Int)) rfl rfl rfl rfl ?_
   by_cases hc4 : ((i1 : Nat) : Int) ≤ ((K : Nat) : Int)
   ·
    refine OA.p (some 38) (.bool true) rfl rfl rfl (Eq.trans (r_bin rfl rfl rfl (b_leq rfl)) (dT hc4)) ?_
    refine OA.nil ?_
    intro _
    refine RA.condT rfl ?_
    refine RA.skip env_ok ?_
    intro _
    refine RA.seq hd ?_
    refine RA.block ?_
    refine RA.seq hd ?_
    refine RA.region env_ok ?_
    refine OA.p (some 41) (.int .i64 ((f : Nat) : Int)) rfl rfl rfl rfl ?_
    refine OA.p (some 42) (.int .i64 ((i1 : Nat) : Int)) rfl rfl rfl rfl ?_
    refine OA.p (some 43) (.int .i64 (((f + i1) : Nat) : Int)) rfl rfl rfl (r_bin rfl rfl rfl (b_add (i64_eq (by omega)))) ?_
    refine OA.p (some 44) (.slice (some ⟨jq, 0, none⟩) K 2) rfl rfl rfl rfl ?_
    refine OA.p (some 45) (.int .i64 ((K : Nat) : Int)) rfl rfl rfl rfl ?_
    have hmd4 := Nat.mod_lt (f + i1) (show 0 < K by omega)
    refine OA.p (some 46) (.int .i64 ((((f + i1) % K) : Nat) : Int)) rfl rfl rfl (r_bin rfl rfl rfl (b_remN (a := (f + i1)) (c := K) (by omega))) ?_
    refine OA.p (some 8) (.int .i64 ((((f + i1) % K) : Nat) : Int)) rfl rfl rfl rfl ?_
    refine OA.nil ?_
    intro _
    refine RA.seq hd ?_
    refine RA.region env_ok ?_
    refine OA.p (some 47) (.slice (some ⟨jq, 0, none⟩) K 2) rfl rfl rfl rfl ?_
    refine OA.p (some 48) (.int .i64 ((((f + i1) % K) : Nat) : Int)) rfl rfl rfl rfl ?_
    refine OA.p (some 49) (.pointer (some ⟨jq, ((f + i1) % K), some 0⟩)) rfl rfl rfl (r_iaS (l := ((f + i1) % K)) rfl rfl rfl rfl rfl rfl (by omega) (by omega) hjq rfl (by omega)) ?_
    refine OA.p (some 50) (.pointer (some ⟨jq, ((f + i1) % K), some 2⟩)) rfl rfl rfl rfl ?_
    refine OA.p (some 51) (.int .i64 (l.getD ((f + i1) % K) dPth).state) rfl rfl rfl (r_loadF (c := cPth) dPth rfl rfl rfl rfl rfl hjq (by rw [hl]; omega) rfl) ?_
    by_cases hc5 : (l.getD ((f + i1) % K) dPth).state = 0
    ·
     refine OA.p (some 52) (.bool true) rfl rfl rfl (Eq.trans (r_bin rfl rfl rfl (b_eql rfl)) (dT hc5)) ?_
     refine OA.nil ?_
     intro _
     refine RA.condT rfl ?_
     refine RA.seq hd ?_
     refine RA.region env_ok ?_
     refine OA.p (some 53) (.int .i64 ((((f + i1) % K) : Nat) : Int)) rfl rfl rfl rfl ?_
     refine OA.p (some 4) (.int .i64 ((((f + i1) % K) : Nat) : Int)) rfl rfl rfl rfl ?_
     refine OA.nil ?_
     intro _
     refine RA.ret env_ok ?_
     refine ⟨.inr rfl, [(.int .i64 ((((f + i1) % K) : Nat) : Int))], (resL_cons rfl resL_nil), (congrArg (fun z : Nat => Value.int .i64 (z : Int)) (Eq.symm (use_0 hl (Classical.not_not.1 hc1) (by omega) (by omega) (fun k a b => hu0c k a (by omega)) hu1c hc5))), (fun i hi => by cases hi)⟩
    ·
     refine OA.p (some 52) (.bool false) rfl rfl rfl (Eq.trans (r_bin rfl rfl rfl (b_eql rfl)) (dF hc5)) ?_
     refine OA.nil ?_
     intro _
     refine RA.condF rfl ?_
     refine RA.skip env_ok ?_
     intro _
     refine RA.region env_ok ?_
     refine OA.p (some 39) (.int .i64 ((i1 : Nat) : Int)) rfl rfl rfl rfl ?_
     refine OA.p (some 40) (.int .i64 (((i1 + 1) : Nat) : Int)) rfl rfl rfl (r_bin rfl rfl rfl (b_add (i64_eq (by omega)))) ?_
     refine OA.p (some 7) (.int .i64 (((i1 + 1) : Nat) : Int)) rfl rfl rfl rfl ?_
     refine OA.nil ?_
     refine ⟨(K + 1 - (i1 + 1)), by omega, [], (Less.refl _ _ _), (i1 + 1), rfl, by omega, ⟨rfl, rfl, rfl, trivial⟩, rfl, (fun i hi => by cases hi), ⟨by omega, by omega, all_more (P := fun k => (l.getD ((f + k) % K) dPth).state = 0) hu1c hc5⟩⟩
   ·
    refine OA.p (some 38) (.bool false) rfl rfl rfl (Eq.trans (r_bin rfl rfl rfl (b_leq rfl)) (dF hc4)) ?_
    refine OA.nil ?_
    intro _
    refine RA.condF rfl ?_
    refine RA.exit env_ok ?_
    intro _
    refine RA.seq hd ?_
    refine RA.region env_ok ?_
    refine OA.p (some 54) (.int .i64 ((f : Nat) : Int)) rfl rfl rfl rfl ?_
    refine OA.p (some 4) (.int .i64 ((f : Nat) : Int)) rfl rfl rfl rfl ?_
    refine OA.nil ?_
    intro _
    refine RA.ret env_ok ?_
    refine ⟨.inr rfl, [(.int .i64 ((f : Nat) : Int))], (resL_cons rfl resL_nil), (congrArg (fun z : Nat => Value.int .i64 (z : Int)) (Eq.symm (use_n hl (Classical.not_not.1 hc1) (fun k a b => hu0c k a (by omega)) (fun k a b => hu1c k a (by omega))))), (fun i hi => by cases hi)⟩

theorem pOther {σ : Store} (p jp K f : Nat) (l : List Pth) (hl : l.length = K) (hK : K ≤ 1000) (hf : f < K) (k0 : Nat) (hk0 : k0 < K) (hp : σ p = some ⟨[[(.slice (some ⟨jp, 0, none⟩) K 2), (.int .i64 ((f : Nat) : Int))]], 2, 131, true⟩) (hjp : σ jp = some (oPth l))  : PS Try.prog noDen 66 [(Pt p 0 0), (.int .i64 ((k0 : Nat) : Int))] σ (.int .i64 (((otherN l k0) : Nat) : Int)) := by
 refine PS.body (E := env) env_ok rfl rfl (by show _ ≤ _; exact of_decide_eq_true (by kernel_rfl)) (fun n hd => ?_)
 have lhp := hd.lt hp
 have lhjp := hd.lt hjp
 refine RA.seq hd ?_
 refine RA.region env_ok ?_
 refine OA.p (some 4) (.int .i64 0) rfl rfl rfl rfl ?_
 refine OA.nil ?_
 intro _
 refine RA.seq hd ?_
 refine RA.seq hd ?_
 refine RA.region env_ok ?_
 refine OA.p (some 7) (Pt p 0 0) rfl rfl rfl rfl ?_
 refine OA.p (some 8) (.bool false) rfl rfl rfl rfl ?_
 refine OA.nil ?_
 intro _
 refine RA.condF rfl ?_
 refine RA.skip env_ok ?_
 intro _
 refine RA.seq hd ?_
 refine RA.seq hd ?_
 refine RA.region env_ok ?_
 refine OA.p (some 5) (.int .i64 1) rfl rfl rfl rfl ?_
 refine OA.nil ?_
 intro _
 refine RA.block ?_
 refine RA.loop hd (fun kk_ τ n' D => ∃ i0 : Nat,  kk_ = (K + 1 - i0) ∧ n ≤ n' ∧ Has τ [(0, (Pt p 0 0)), (1, (.int .i64 ((k0 : Nat) : Int))), (5, (.int .i64 ((i0 : Nat) : Int)))] ∧ D = [] ∧ (∀ i ∈ keys D, i < n') ∧ 1 ≤ i0 ∧ i0 ≤ K + 1 ∧ ∀ k, 1 ≤ k → k < i0 → ¬ (l.getD ((k0 + k) % K) dPth).state = 1) ((K + 1 - 1)) ⟨1, rfl, by omega, ⟨rfl, rfl, rfl, trivial⟩, rfl, (fun i hi => by cases hi), ⟨by omega, by omega, fun k a b => absurd b (by omega)⟩⟩ ?_
 rintro kn1 τ1 n1 _ ⟨i0, rfl, hn1, hHn1, rfl, hKn1, hIn1⟩
 rw [Has.eq hHn1]
 simp only [keys, List.map, List.forall_mem_cons, List.mem_cons, List.not_mem_nil, false_imp_iff, implies_true, and_true] at hKn1
 obtain ⟨hu0a, hu0b, hu0c⟩ := hIn1
 refine RA.seq hd ?_
 refine RA.seq hd ?_
 refine RA.region env_ok ?_
 refine OA.p (some 9) (.int .i64 ((i0 : Nat) : Int)) rfl rfl rfl rfl ?_
 refine OA.p (some 10) (Pt p 0 0) rfl rfl rfl rfl ?_
 refine OA.p (some 11) (Pt p 0 0) rfl rfl rfl rfl ?_
 refine OA.p (some 12) (Pt p 0 0) rfl rfl rfl rfl ?_
 refine OA.p (some 13) (.slice (some ⟨jp, 0, none⟩) K 2) rfl rfl rfl (r_load1 rfl rfl rfl rfl rfl hp rfl rfl) ?_
 refine OA.p (some 14) (.int .i64 ((K : Nat) : Int)) rfl rfl rfl rfl ?_
 by_cases hc1 : ((i0 : Nat) : Int) < ((K : Nat) : Int)
 ·
  refine OA.p (some 15) (.bool true) rfl rfl rfl (Eq.trans (r_bin rfl rfl rfl (b_lss rfl)) (dT hc1)) ?_
  refine OA.nil ?_
  intro _
  refine RA.condT rfl ?_
  refine RA.skip env_ok ?_
  intro _
  refine RA.seq hd ?_
  refine RA.block ?_
  refine RA.seq hd ?_
  refine RA.region env_ok ?_
  refine OA.p (some 18) (.int .i64 ((k0 : Nat) : Int)) rfl rfl rfl rfl ?_
  refine OA.p (some 19) (.int .i64 ((k0 : Nat) : Int)) rfl rfl rfl (Eq.trans (r_max (a := k0) (b := 0) rfl rfl rfl) (by rw [Nat.max_zero])) ?_
  refine OA.p (some 20) (.int .i64 ((i0 : Nat) : Int)) rfl rfl rfl rfl ?_
  refine OA.p (some 21) (.int .i64 (((k0 + i0) : Nat) : Int)) rfl rfl rfl (r_bin rfl rfl rfl (b_add (i64_eq (by omega)))) ?_
  refine OA.p (some 22) (Pt p 0 0) rfl rfl rfl rfl ?_
  refine OA.p (some 23) (Pt p 0 0) rfl rfl rfl rfl ?_
  refine OA.p (some 24) (Pt p 0 0) rfl rfl rfl rfl ?_
  refine OA.p (some 25) (.slice (some ⟨jp, 0, none⟩) K 2) rfl rfl rfl (r_load1 rfl rfl rfl rfl rfl hp rfl rfl) ?_
  refine OA.p (some 26) (.int .i64 ((K : Nat) : Int)) rfl rfl rfl rfl ?_
  have hmd2 := Nat.mod_lt (k0 + i0) (show 0 < K by omega)
  refine OA.p (some 27) (.int .i64 ((((k0 + i0) % K) : Nat) : Int)) rfl rfl rfl (r_bin rfl rfl rfl (b_remN (a := (k0 + i0)) (c := K) (by omega))) ?_
  refine OA.p (some 6) (.int .i64 ((((k0 + i0) % K) : Nat) : Int)) rfl rfl rfl rfl ?_
  refine OA.nil ?_
  intro _
  refine RA.seq hd ?_
  refine RA.region env_ok ?_
  refine OA.p (some 28) (Pt p 0 0) rfl rfl rfl rfl ?_
  refine OA.p (some 29) (Pt p 0 0) rfl rfl rfl rfl ?_
  refine OA.p (some 30) (Pt p 0 0) rfl rfl rfl rfl ?_
  refine OA.p (some 31) (.slice (some ⟨jp, 0, none⟩) K 2) rfl rfl rfl (r_load1 rfl rfl rfl rfl rfl hp rfl rfl) ?_
  refine OA.p (some 32) (.int .i64 ((((k0 + i0) % K) : Nat) : Int)) rfl rfl rfl rfl ?_
  refine OA.p (some 33) (.pointer (some ⟨jp, ((k0 + i0) % K), some 0⟩)) rfl rfl rfl (r_iaS (l := ((k0 + i0) % K)) rfl rfl rfl rfl rfl rfl (by omega) (by omega) hjp rfl (by omega)) ?_
  refine OA.p (some 34) (.pointer (some ⟨jp, ((k0 + i0) % K), some 2⟩)) rfl rfl rfl rfl ?_
  refine OA.p (some 35) (.int .i64 (l.getD ((k0 + i0) % K) dPth).state) rfl rfl rfl (r_loadF (c := cPth) dPth rfl rfl rfl rfl rfl hjp (by rw [hl]; omega) rfl) ?_
  by_cases hc2 : (l.getD ((k0 + i0) % K) dPth).state = 1
  ·
   refine OA.p (some 36) (.bool true) rfl rfl rfl (Eq.trans (r_bin rfl rfl rfl (b_eql rfl)) (dT hc2)) ?_
   refine OA.nil ?_
   intro _
   refine RA.rebase [(0, (Pt p 0 0)), (1, (.int .i64 ((k0 : Nat) : Int))), (5, (.int .i64 ((i0 : Nat) : Int))), (6, (.int .i64 ((((k0 + i0) % K) : Nat) : Int))), (15, (.bool true)), (36, (.bool true))] ⟨rfl, rfl, rfl, rfl, rfl, rfl, trivial⟩ (fun τr3 => ?_)
   refine RA.condT rfl ?_
   refine RA.seq hd ?_
   refine RA.region env_ok ?_
   refine OA.p (some 37) (.int .i64 ((((k0 + i0) % K) : Nat) : Int)) rfl rfl rfl rfl ?_
   refine OA.p (some 4) (.int .i64 ((((k0 + i0) % K) : Nat) : Int)) rfl rfl rfl rfl ?_
   refine OA.nil ?_
   intro _
   refine RA.ret env_ok ?_
   refine ⟨.inr rfl, [(.int .i64 ((((k0 + i0) % K) : Nat) : Int))], (resL_cons rfl resL_nil), (congrArg (fun z : Nat => Value.int .i64 (z : Int)) (Eq.symm (oth_y hl (by omega) (by omega) hu0c hc2))), (fun i hi => by cases hi)⟩
  ·
   refine OA.p (some 36) (.bool false) rfl rfl rfl (Eq.trans (r_bin rfl rfl rfl (b_eql rfl)) (dF hc2)) ?_
   refine OA.nil ?_
   intro _
   refine RA.rebase [(0, (Pt p 0 0)), (1, (.int .i64 ((k0 : Nat) : Int))), (5, (.int .i64 ((i0 : Nat) : Int))), (6, (.int .i64 ((((k0 + i0) % K) : Nat) : Int))), (15, (.bool true)), (36, (.bool false))] ⟨rfl, rfl, rfl, rfl, rfl, rfl, trivial⟩ (fun τr4 => ?_)
   refine RA.condF rfl ?_
   refine RA.skip env_ok ?_
   intro _
   refine RA.region env_ok ?_
   refine OA.p (some 16) (.int .i64 ((i0 : Nat) : Int)) rfl rfl rfl rfl ?_
   refine OA.p (some 17) (.int .i64 (((i0 + 1) : Nat) : Int)) rfl rfl rfl (r_bin rfl rfl rfl (b_add (i64_eq (by omega)))) ?_
   refine OA.p (some 5) (.int .i64 (((i0 + 1) : Nat) : Int)) rfl rfl rfl rfl ?_
   refine OA.nil ?_
   refine ⟨(K + 1 - (i0 + 1)), by omega, [], (Less.refl _ _ _), (i0 + 1), rfl, by omega, ⟨rfl, rfl, rfl, trivial⟩, rfl, (fun i hi => by cases hi), ⟨by omega, by omega, all_more (P := fun k => (l.getD ((k0 + k) % K) dPth).state = 1) hu0c hc2⟩⟩
 ·
  refine OA.p (some 15) (.bool false) rfl rfl rfl (Eq.trans (r_bin rfl rfl rfl (b_lss rfl)) (dF hc1)) ?_
  refine OA.nil ?_
  intro _
  refine RA.condF rfl ?_
  refine RA.exit env_ok ?_
  intro _
  refine RA.seq hd ?_
  refine RA.region env_ok ?_
  refine OA.p (some 38) (.int .i64 ((k0 : Nat) : Int)) rfl rfl rfl rfl ?_
  refine OA.p (some 4) (.int .i64 ((k0 : Nat) : Int)) rfl rfl rfl rfl ?_
  refine OA.nil ?_
  intro _
  refine RA.ret env_ok ?_
  refine ⟨.inr rfl, [(.int .i64 ((k0 : Nat) : Int))], (resL_cons rfl resL_nil), (congrArg (fun z : Nat => Value.int .i64 (z : Int)) (Eq.symm (oth_n hl (fun k a b => hu0c k a (by omega))))), (fun i hi => by cases hi)⟩
end Go.Proofs.Ytnjknabighmedaa.Vt
