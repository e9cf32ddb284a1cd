/- Mh2: walks through functions of the program, by the calculus; written by a program of this workplace. -/
import Derived.Test.YtnjknabighmedaaMh1
import Derived.Test.YtnjknabighmedaaVm6
namespace Go.Proofs.Ytnjknabighmedaa.Vt
open Go Go.Proofs Go.Proofs.YtnjknabighmedaaV
set_option maxRecDepth 100000
set_option linter.unusedVariables false
set_option linter.unusedSimpArgs false
theorem loose_end {la lb : List Msg} {i : Nat} (hi : lb.length ≤ i) (h : (lb.take i).all (fitB la lb) = true) : looseB la lb = true := by
  rw [List.take_of_length_le hi] at h; exact h
theorem loose_no {la lb : List Msg} {i : Nat} (hi : i < lb.length) (h1 : (lb.getD i dMsg).loose = true) (h2 : la.count (lb.getD i dMsg) < lb.count (lb.getD i dMsg)) : looseB la lb = false := by
  refine Bool.eq_false_iff.2 (fun h => ?_)
  have h3 := List.all_eq_true.1 h _ (getD_mem (d := dMsg) hi)
  unfold fitB at h3
  rw [h1] at h3
  simp at h3
  simp at h2
  omega
theorem mOrd {σ : Store} (ja jb A B : Nat) (la lb : List Msg) (hla : la.length = A) (hlb : lb.length = B) (hA : A ≤ 1000) (hB : B ≤ 1000) (hka : ∀ m ∈ la, okM m) (hkb : ∀ m ∈ lb, okM m) (hja : σ ja = some (oMsg la)) (hjb : σ jb = some (oMsg lb))  : PS Try.prog noDen 34 [(.slice (some ⟨ja, 0, none⟩) A 2), (.slice (some ⟨jb, 0, none⟩) B 2)] σ (.bool (orderB la lb)) := by
 refine PS.body (E := env) env_ok rfl rfl (by show _ ≤ _; exact of_decide_eq_true (by kernel_rfl)) (fun n hd => ?_)
 have lhja := hd.lt hja
 have lhjb := hd.lt hjb
 refine RA.seq hd ?_
 refine RA.region env_ok ?_
 refine OA.p (some 4) (.bool false) rfl rfl rfl rfl ?_
 refine OA.nil ?_
 intro _
 refine RA.seq hd ?_
 refine RA.seq hd ?_
 refine RA.region env_ok ?_
 refine OA.p (some 5) (.int .i64 0) rfl rfl rfl rfl ?_
 refine OA.nil ?_
 intro _
 refine RA.block ?_
 refine RA.loop hd (fun kk_ τ n' D => ∃ s : Nat,  kk_ = (2 - s) ∧ n ≤ n' ∧ Has τ [(0, (.slice (some ⟨ja, 0, none⟩) A 2)), (1, (.slice (some ⟨jb, 0, none⟩) B 2)), (5, (.int .i64 ((s : Nat) : Int)))] ∧ D = [] ∧ (∀ i ∈ keys D, i < n') ∧ s ≤ 2 ∧ ∀ t, t < s → okB la lb t = true) ((2 - 0)) ⟨0, rfl, by omega, ⟨rfl, rfl, rfl, trivial⟩, rfl, (fun i hi => by cases hi), ⟨by omega, fun t ht => absurd ht (by omega)⟩⟩ ?_
 rintro kn1 τ1 n1 _ ⟨s, rfl, hn1, hHn1, rfl, hKn1, hIn1⟩
 rw [Has.eq hHn1]
 simp only [keys, List.map, List.forall_mem_cons, List.mem_cons, List.not_mem_nil, false_imp_iff, implies_true, and_true] at hKn1
 obtain ⟨hs1, hs2⟩ := hIn1
 refine RA.seq hd ?_
 refine RA.seq hd ?_
 refine RA.region env_ok ?_
 refine OA.p (some 8) (.int .i64 ((s : Nat) : Int)) rfl rfl rfl rfl ?_
 by_cases hc1 : ((s : Nat) : Int) < 2
 ·
  refine OA.p (some 9) (.bool true) rfl rfl rfl (Eq.trans (r_bin rfl rfl rfl (b_lss rfl)) (dT hc1)) ?_
  refine OA.nil ?_
  intro _
  refine RA.condT rfl ?_
  refine RA.skip env_ok ?_
  intro _
  refine RA.seq hd ?_
  refine RA.block ?_
  refine RA.seq hd ?_
  refine RA.region env_ok ?_
  refine OA.p (some 6) (.int .i64 0) rfl rfl rfl rfl ?_
  refine OA.nil ?_
  intro _
  refine RA.seq hd ?_
  refine RA.region env_ok ?_
  refine OA.p (some 7) (.int .i64 0) rfl rfl rfl rfl ?_
  refine OA.nil ?_
  intro _
  refine RA.block ?_
  refine RA.loop hd (fun kk_ τ n' D => ∃ a1 : Nat, ∃ i : Nat,  kk_ = (B - i) ∧ n1 ≤ n' ∧ Has τ [(0, (.slice (some ⟨ja, 0, none⟩) A 2)), (1, (.slice (some ⟨jb, 0, none⟩) B 2)), (5, (.int .i64 ((s : Nat) : Int))), (6, (.int .i64 ((a1 : Nat) : Int))), (7, (.int .i64 ((i : Nat) : Int)))] ∧ D = [] ∧ (∀ i ∈ keys D, i < n') ∧ a1 ≤ A ∧ i ≤ B ∧ fS s (la.take a1) = fS s (lb.take i)) ((B - 0)) ⟨0, 0, rfl, by omega, ⟨rfl, rfl, rfl, rfl, rfl, trivial⟩, rfl, (fun i hi => by cases hi), ⟨by omega, by omega, rfl⟩⟩ ?_
  rintro kn2 τ2 n2 _ ⟨a1, i, rfl, hn2, hHn2, rfl, hKn2, hIn2⟩
  rw [Has.eq hHn2]
  simp only [keys, List.map, List.forall_mem_cons, List.mem_cons, List.not_mem_nil, false_imp_iff, implies_true, and_true] at hKn2
  obtain ⟨hi1, hi2, hi3⟩ := hIn2
  refine RA.seq hd ?_
  refine RA.seq hd ?_
  refine RA.region env_ok ?_
  refine OA.p (some 12) (.int .i64 ((i : Nat) : Int)) rfl rfl rfl rfl ?_
  refine OA.p (some 13) (.slice (some ⟨jb, 0, none⟩) B 2) rfl rfl rfl rfl ?_
  refine OA.p (some 14) (.int .i64 ((B : Nat) : Int)) rfl rfl rfl rfl ?_
  by_cases hc2 : ((i : Nat) : Int) < ((B : Nat) : Int)
  ·
   refine OA.p (some 15) (.bool true) rfl rfl rfl (Eq.trans (r_bin rfl rfl rfl (b_lss rfl)) (dT hc2)) ?_
   refine OA.nil ?_
   intro _
   refine RA.condT rfl ?_
   refine RA.skip env_ok ?_
   intro _
   refine RA.seq hd ?_
   refine RA.block ?_
   refine RA.seq hd ?_
   refine RA.seq hd ?_
   refine RA.region env_ok ?_
   refine OA.p (some 18) (.slice (some ⟨jb, 0, none⟩) B 2) rfl rfl rfl rfl ?_
   refine OA.p (some 19) (.int .i64 ((i : Nat) : Int)) rfl rfl rfl rfl ?_
   refine OA.p (some 20) (Pt jb i 0) rfl rfl rfl (r_iaS (l := i) rfl rfl rfl rfl rfl rfl (by omega) (by omega) hjb rfl (by omega)) ?_
   refine OA.p (some 21) (Pt jb i 2) rfl rfl rfl rfl ?_
   by_cases hc3 : (lb.getD i dMsg).loose = true
   ·
    refine OA.p (some 22) (.bool true) rfl rfl rfl (Eq.trans (r_loadF (c := cMsg) dMsg rfl rfl rfl rfl rfl hjb (by rw [hlb]; omega) rfl) (bT hc3)) ?_
    refine OA.p (some 23) (.bool true) rfl rfl rfl rfl ?_
    refine OA.off (dst := (some 24)) rfl rfl rfl ?_
    refine OA.off (dst := (some 25)) rfl rfl rfl ?_
    refine OA.off (dst := (some 26)) rfl rfl rfl ?_
    refine OA.off (dst := (some 27)) rfl rfl rfl ?_
    refine OA.off (dst := (some 28)) rfl rfl rfl ?_
    refine OA.off (dst := (some 29)) rfl rfl rfl ?_
    refine OA.off (dst := (some 30)) rfl rfl rfl ?_
    refine OA.p (some 31) (.bool true) rfl rfl rfl rfl ?_
    refine OA.nil ?_
    intro _
    refine RA.condT rfl ?_
    refine RA.exit env_ok ?_
    intro _
    refine RA.region env_ok ?_
    refine OA.p (some 16) (.int .i64 ((i : Nat) : Int)) rfl rfl rfl rfl ?_
    refine OA.p (some 17) (.int .i64 (((i + 1) : Nat) : Int)) rfl rfl rfl (r_bin rfl rfl rfl (b_add (i64_eq (by omega)))) ?_
    refine OA.p (some 7) (.int .i64 (((i + 1) : Nat) : Int)) rfl rfl rfl rfl ?_
    refine OA.nil ?_
    refine ⟨(B - (i + 1)), by omega, [], (Less.refl _ _ _), a1, (i + 1), rfl, by omega, ⟨rfl, rfl, rfl, rfl, rfl, trivial⟩, rfl, (fun i hi => by cases hi), ⟨by omega, by omega, by rw [fS_no (by omega) (ofP_f1 hc3)]; exact hi3⟩⟩
   ·
    refine OA.p (some 22) (.bool false) rfl rfl rfl (Eq.trans (r_loadF (c := cMsg) dMsg rfl rfl rfl rfl rfl hjb (by rw [hlb]; omega) rfl) (bF hc3)) ?_
    refine OA.p (some 23) (.bool false) rfl rfl rfl rfl ?_
    refine OA.p (some 24) (.slice (some ⟨jb, 0, none⟩) B 2) rfl rfl rfl rfl ?_
    refine OA.p (some 25) (.int .i64 ((i : Nat) : Int)) rfl rfl rfl rfl ?_
    refine OA.p (some 26) (Pt jb i 0) rfl rfl rfl (r_iaS (l := i) rfl rfl rfl rfl rfl rfl (by omega) (by omega) hjb rfl (by omega)) ?_
    refine OA.p (some 27) (Pt jb i 0) rfl rfl rfl rfl ?_
    refine OA.p (some 28) (.int .i64 (lb.getD i dMsg).st) rfl rfl rfl (r_loadF (c := cMsg) dMsg rfl rfl rfl rfl rfl hjb (by rw [hlb]; omega) rfl) ?_
    refine OA.p (some 29) (.int .i64 ((s : Nat) : Int)) rfl rfl rfl rfl ?_
    by_cases hc4 : (lb.getD i dMsg).st ≠ ((s : Nat) : Int)
    ·
     refine OA.p (some 30) (.bool true) rfl rfl rfl (Eq.trans (r_bin rfl rfl rfl (b_neq rfl)) (dT hc4)) ?_
     refine OA.p (some 31) (.bool true) rfl rfl rfl rfl ?_
     refine OA.nil ?_
     intro _
     refine RA.condT rfl ?_
     refine RA.exit env_ok ?_
     intro _
     refine RA.region env_ok ?_
     refine OA.p (some 16) (.int .i64 ((i : Nat) : Int)) rfl rfl rfl rfl ?_
     refine OA.p (some 17) (.int .i64 (((i + 1) : Nat) : Int)) rfl rfl rfl (r_bin rfl rfl rfl (b_add (i64_eq (by omega)))) ?_
     refine OA.p (some 7) (.int .i64 (((i + 1) : Nat) : Int)) rfl rfl rfl rfl ?_
     refine OA.nil ?_
     refine ⟨(B - (i + 1)), by omega, [], (Less.refl _ _ _), a1, (i + 1), rfl, by omega, ⟨rfl, rfl, rfl, rfl, rfl, trivial⟩, rfl, (fun i hi => by cases hi), ⟨by omega, by omega, by rw [fS_no (by omega) (ofP_f2 hc4)]; exact hi3⟩⟩
    ·
     refine OA.p (some 30) (.bool false) rfl rfl rfl (Eq.trans (r_bin rfl rfl rfl (b_neq rfl)) (dF hc4)) ?_
     refine OA.p (some 31) (.bool false) rfl rfl rfl rfl ?_
     refine OA.nil ?_
     intro _
     refine RA.condF rfl ?_
     refine RA.skip env_ok ?_
     intro _
     refine RA.seq hd ?_
     refine RA.block ?_
     have hpB : ofP false ((s : Nat) : Int) (lb.getD i dMsg) = true := ofP_t hc3 (Classical.not_not.1 hc4)
     refine RA.loop hd (fun kk_ τ n' D => ∃ a2 : Nat,  kk_ = (A - a2) ∧ n2 ≤ n' ∧ Has τ [(0, (.slice (some ⟨ja, 0, none⟩) A 2)), (1, (.slice (some ⟨jb, 0, none⟩) B 2)), (5, (.int .i64 ((s : Nat) : Int))), (6, (.int .i64 ((a2 : Nat) : Int))), (7, (.int .i64 ((i : Nat) : Int)))] ∧ D = [] ∧ (∀ i ∈ keys D, i < n') ∧ a2 ≤ A ∧ fS s (la.take a2) = fS s (lb.take i)) ((A - a1)) ⟨a1, rfl, by omega, ⟨rfl, rfl, rfl, rfl, rfl, trivial⟩, rfl, (fun i hi => by cases hi), ⟨by omega, hi3⟩⟩ ?_
     rintro kn3 τ3 n3 _ ⟨a2, rfl, hn3, hHn3, rfl, hKn3, hIn3⟩
     rw [Has.eq hHn3]
     simp only [keys, List.map, List.forall_mem_cons, List.mem_cons, List.not_mem_nil, false_imp_iff, implies_true, and_true] at hKn3
     obtain ⟨ha1, ha2⟩ := hIn3
     refine RA.seq hd ?_
     refine RA.seq hd ?_
     refine RA.region env_ok ?_
     refine OA.p (some 32) (.int .i64 ((a2 : Nat) : Int)) rfl rfl rfl rfl ?_
     refine OA.p (some 33) (.slice (some ⟨ja, 0, none⟩) A 2) rfl rfl rfl rfl ?_
     refine OA.p (some 34) (.int .i64 ((A : Nat) : Int)) rfl rfl rfl rfl ?_
     by_cases hc5 : ((a2 : Nat) : Int) < ((A : Nat) : Int)
     ·
      refine OA.p (some 35) (.bool true) rfl rfl rfl (Eq.trans (r_bin rfl rfl rfl (b_lss rfl)) (dT hc5)) ?_
      refine OA.p (some 36) (.bool true) rfl rfl rfl rfl ?_
      refine OA.p (some 37) (.slice (some ⟨ja, 0, none⟩) A 2) rfl rfl rfl rfl ?_
      refine OA.p (some 38) (.int .i64 ((a2 : Nat) : Int)) rfl rfl rfl rfl ?_
      refine OA.p (some 39) (Pt ja a2 0) rfl rfl rfl (r_iaS (l := a2) rfl rfl rfl rfl rfl rfl (by omega) (by omega) hja rfl (by omega)) ?_
      refine OA.p (some 40) (Pt ja a2 2) rfl rfl rfl rfl ?_
      by_cases hc6 : (la.getD a2 dMsg).loose = true
      ·
       refine OA.p (some 41) (.bool true) rfl rfl rfl (Eq.trans (r_loadF (c := cMsg) dMsg rfl rfl rfl rfl rfl hja (by rw [hla]; omega) rfl) (bT hc6)) ?_
       refine OA.p (some 42) (.bool true) rfl rfl rfl rfl ?_
       refine OA.off (dst := (some 43)) rfl rfl rfl ?_
       refine OA.off (dst := (some 44)) rfl rfl rfl ?_
       refine OA.off (dst := (some 45)) rfl rfl rfl ?_
       refine OA.off (dst := (some 46)) rfl rfl rfl ?_
       refine OA.off (dst := (some 47)) rfl rfl rfl ?_
       refine OA.off (dst := (some 48)) rfl rfl rfl ?_
       refine OA.off (dst := (some 49)) rfl rfl rfl ?_
       refine OA.p (some 50) (.bool true) rfl rfl rfl rfl ?_
       refine OA.p (some 51) (.bool true) rfl rfl rfl rfl ?_
       refine OA.nil ?_
       intro _
       refine RA.condT rfl ?_
       refine RA.skip env_ok ?_
       intro _
       refine RA.block ?_
       refine RA.region env_ok ?_
       refine OA.p (some 52) (.int .i64 ((a2 : Nat) : Int)) rfl rfl rfl rfl ?_
       refine OA.p (some 53) (.int .i64 (((a2 + 1) : Nat) : Int)) rfl rfl rfl (r_bin rfl rfl rfl (b_add (i64_eq (by omega)))) ?_
       refine OA.p (some 6) (.int .i64 (((a2 + 1) : Nat) : Int)) rfl rfl rfl rfl ?_
       refine OA.nil ?_
       refine ⟨(A - (a2 + 1)), by omega, [], (Less.refl _ _ _), (a2 + 1), rfl, by omega, ⟨rfl, rfl, rfl, rfl, rfl, trivial⟩, rfl, (fun i hi => by cases hi), ⟨by omega, by rw [fS_no (by omega) (ofP_f1 hc6)]; exact ha2⟩⟩
      ·
       refine OA.p (some 41) (.bool false) rfl rfl rfl (Eq.trans (r_loadF (c := cMsg) dMsg rfl rfl rfl rfl rfl hja (by rw [hla]; omega) rfl) (bF hc6)) ?_
       refine OA.p (some 42) (.bool false) rfl rfl rfl rfl ?_
       refine OA.p (some 43) (.slice (some ⟨ja, 0, none⟩) A 2) rfl rfl rfl rfl ?_
       refine OA.p (some 44) (.int .i64 ((a2 : Nat) : Int)) rfl rfl rfl rfl ?_
       refine OA.p (some 45) (Pt ja a2 0) rfl rfl rfl (r_iaS (l := a2) rfl rfl rfl rfl rfl rfl (by omega) (by omega) hja rfl (by omega)) ?_
       refine OA.p (some 46) (Pt ja a2 0) rfl rfl rfl rfl ?_
       refine OA.p (some 47) (.int .i64 (la.getD a2 dMsg).st) rfl rfl rfl (r_loadF (c := cMsg) dMsg rfl rfl rfl rfl rfl hja (by rw [hla]; omega) rfl) ?_
       refine OA.p (some 48) (.int .i64 ((s : Nat) : Int)) rfl rfl rfl rfl ?_
       by_cases hc7 : (la.getD a2 dMsg).st ≠ ((s : Nat) : Int)
       ·
        refine OA.p (some 49) (.bool true) rfl rfl rfl (Eq.trans (r_bin rfl rfl rfl (b_neq rfl)) (dT hc7)) ?_
        refine OA.p (some 50) (.bool true) rfl rfl rfl rfl ?_
        refine OA.p (some 51) (.bool true) rfl rfl rfl rfl ?_
        refine OA.nil ?_
        intro _
        refine RA.condT rfl ?_
        refine RA.skip env_ok ?_
        intro _
        refine RA.block ?_
        refine RA.region env_ok ?_
        refine OA.p (some 52) (.int .i64 ((a2 : Nat) : Int)) rfl rfl rfl rfl ?_
        refine OA.p (some 53) (.int .i64 (((a2 + 1) : Nat) : Int)) rfl rfl rfl (r_bin rfl rfl rfl (b_add (i64_eq (by omega)))) ?_
        refine OA.p (some 6) (.int .i64 (((a2 + 1) : Nat) : Int)) rfl rfl rfl rfl ?_
        refine OA.nil ?_
        refine ⟨(A - (a2 + 1)), by omega, [], (Less.refl _ _ _), (a2 + 1), rfl, by omega, ⟨rfl, rfl, rfl, rfl, rfl, trivial⟩, rfl, (fun i hi => by cases hi), ⟨by omega, by rw [fS_no (by omega) (ofP_f2 hc7)]; exact ha2⟩⟩
       ·
        have hpA : ofP false ((s : Nat) : Int) (la.getD a2 dMsg) = true := ofP_t (by assumption) (Classical.not_not.1 hc7)
        refine OA.p (some 49) (.bool false) rfl rfl rfl (Eq.trans (r_bin rfl rfl rfl (b_neq rfl)) (dF hc7)) ?_
        refine OA.p (some 50) (.bool false) rfl rfl rfl rfl ?_
        refine OA.p (some 51) (.bool false) rfl rfl rfl rfl ?_
        refine OA.nil ?_
        intro _
        refine RA.condF rfl ?_
        refine RA.exit env_ok ?_
        intro _
        refine RA.seq hd ?_
        refine RA.seq hd ?_
        refine RA.par (md := [some [], some [], some [], some [], some [], some [], some [], some [ja], some [], some [ja], some [], some [], some [jb], some [], some [jb], some [], some []]) env_ok (hd.up (by omega)) (by kernel_rfl) ?_
        refine PQ.pure (dst := (some 54)) (v := (.int .i64 ((a2 : Nat) : Int))) rfl rfl rfl noStore (none_ok _ _) rfl ?_
        refine PQ.pure (dst := (some 55)) (v := (.slice (some ⟨ja, 0, none⟩) A 2)) rfl rfl rfl noStore (none_ok _ _) rfl ?_
        refine PQ.pure (dst := (some 56)) (v := (.int .i64 ((A : Nat) : Int))) rfl rfl rfl noStore (none_ok _ _) rfl ?_
        have hc8 : ¬ (((a2 : Nat) : Int) = ((A : Nat) : Int)) := fun hdd => by exfalso; omega
        refine PQ.pure (dst := (some 57)) (v := (.bool false)) rfl rfl rfl noStore (none_ok _ _) (Eq.trans (r_bin rfl rfl rfl (b_eql rfl)) (dF hc8)) ?_
        refine PQ.pure (dst := (some 58)) (v := (.bool false)) rfl rfl rfl noStore (none_ok _ _) rfl ?_
        refine PQ.pure (dst := (some 59)) (v := (.slice (some ⟨ja, 0, none⟩) A 2)) rfl rfl rfl noStore (none_ok _ _) rfl ?_
        refine PQ.pure (dst := (some 60)) (v := (.int .i64 ((a2 : Nat) : Int))) rfl rfl rfl noStore (none_ok _ _) rfl ?_
        refine PQ.pure (dst := (some 61)) (v := (Pt ja a2 0)) rfl rfl rfl (app [(ja, some (oMsg la))] noStore) (seen_one (V := []) (D := []) (by kernel_rfl) hja) (r_iaS (l := a2) rfl rfl rfl rfl rfl rfl (by omega) (by omega) get_here rfl (by omega)) ?_
        refine PQ.pure (dst := (some 62)) (v := (Pt ja a2 4)) rfl rfl rfl noStore (none_ok _ _) rfl ?_
        refine PQ.pure (dst := (some 63)) (v := (.string (la.getD a2 dMsg).data)) rfl rfl rfl (app [(ja, some (oMsg la))] noStore) (seen_one (V := []) (D := []) (by kernel_rfl) hja) (r_loadF (c := cMsg) dMsg rfl rfl rfl rfl rfl get_here (by rw [hla]; omega) rfl) ?_
        refine PQ.pure (dst := (some 64)) (v := (.slice (some ⟨jb, 0, none⟩) B 2)) rfl rfl rfl noStore (none_ok _ _) rfl ?_
        refine PQ.pure (dst := (some 65)) (v := (.int .i64 ((i : Nat) : Int))) rfl rfl rfl noStore (none_ok _ _) rfl ?_
        refine PQ.pure (dst := (some 66)) (v := (Pt jb i 0)) rfl rfl rfl (app [(jb, some (oMsg lb))] noStore) (seen_one (V := []) (D := []) (by kernel_rfl) hjb) (r_iaS (l := i) rfl rfl rfl rfl rfl rfl (by omega) (by omega) get_here rfl (by omega)) ?_
        refine PQ.pure (dst := (some 67)) (v := (Pt jb i 4)) rfl rfl rfl noStore (none_ok _ _) rfl ?_
        refine PQ.pure (dst := (some 68)) (v := (.string (lb.getD i dMsg).data)) rfl rfl rfl (app [(jb, some (oMsg lb))] noStore) (seen_one (V := []) (D := []) (by kernel_rfl) hjb) (r_loadF (c := cMsg) dMsg rfl rfl rfl rfl rfl get_here (by rw [hlb]; omega) rfl) ?_
        by_cases hc9 : (la.getD a2 dMsg).data = (lb.getD i dMsg).data
        ·
         refine PQ.pure (dst := (some 69)) (v := (.bool false)) rfl rfl rfl noStore (none_ok _ _) (Eq.trans (r_neqS rfl rfl rfl) (ndT hc9)) ?_
         refine PQ.pure (dst := (some 70)) (v := (.bool false)) rfl rfl rfl noStore (none_ok _ _) rfl ?_
         refine PQ.done (d := []) (by kernel_rfl) ?_
         intro _
         refine RA.rebase [(0, (.slice (some ⟨ja, 0, none⟩) A 2)), (1, (.slice (some ⟨jb, 0, none⟩) B 2)), (5, (.int .i64 ((s : Nat) : Int))), (6, (.int .i64 ((a2 : Nat) : Int))), (7, (.int .i64 ((i : Nat) : Int))), (51, (.bool false)), (70, (.bool false))] ⟨rfl, rfl, rfl, rfl, rfl, rfl, rfl, trivial⟩ (fun τr4 => ?_)
         refine RA.condF rfl ?_
         refine RA.skip env_ok ?_
         intro _
         refine RA.region env_ok ?_
         refine OA.p (some 71) (.int .i64 ((a2 : Nat) : Int)) rfl rfl rfl rfl ?_
         refine OA.p (some 72) (.int .i64 (((a2 + 1) : Nat) : Int)) rfl rfl rfl (r_bin rfl rfl rfl (b_add (i64_eq (by omega)))) ?_
         refine OA.p (some 6) (.int .i64 (((a2 + 1) : Nat) : Int)) rfl rfl rfl rfl ?_
         refine OA.nil ?_
         intro _
         refine RA.region env_ok ?_
         refine OA.p (some 16) (.int .i64 ((i : Nat) : Int)) rfl rfl rfl rfl ?_
         refine OA.p (some 17) (.int .i64 (((i + 1) : Nat) : Int)) rfl rfl rfl (r_bin rfl rfl rfl (b_add (i64_eq (by omega)))) ?_
         refine OA.p (some 7) (.int .i64 (((i + 1) : Nat) : Int)) rfl rfl rfl rfl ?_
         refine OA.nil ?_
         refine ⟨(B - (i + 1)), by omega, [], (Less.refl _ _ _), (a2 + 1), (i + 1), rfl, by omega, ⟨rfl, rfl, rfl, rfl, rfl, trivial⟩, rfl, (fun i hi => by cases hi), ⟨by omega, by omega, ord_match ha2 hka hkb (by omega) hpA (by omega) hpB hc9⟩⟩
        ·
         refine PQ.pure (dst := (some 69)) (v := (.bool true)) rfl rfl rfl noStore (none_ok _ _) (Eq.trans (r_neqS rfl rfl rfl) (ndF hc9)) ?_
         refine PQ.pure (dst := (some 70)) (v := (.bool true)) rfl rfl rfl noStore (none_ok _ _) rfl ?_
         refine PQ.done (d := []) (by kernel_rfl) ?_
         intro _
         refine RA.rebase [(0, (.slice (some ⟨ja, 0, none⟩) A 2)), (1, (.slice (some ⟨jb, 0, none⟩) B 2)), (5, (.int .i64 ((s : Nat) : Int))), (6, (.int .i64 ((a2 : Nat) : Int))), (7, (.int .i64 ((i : Nat) : Int))), (51, (.bool false)), (70, (.bool true))] ⟨rfl, rfl, rfl, rfl, rfl, rfl, rfl, trivial⟩ (fun τr5 => ?_)
         refine RA.condT rfl ?_
         refine RA.seq hd ?_
         refine RA.region env_ok ?_
         refine OA.p (some 4) (.bool false) rfl rfl rfl rfl ?_
         refine OA.nil ?_
         intro _
         refine RA.ret env_ok ?_
         refine ⟨.inr rfl, [(.bool false)], (resL_cons rfl resL_nil), (congrArg Value.bool (ord_false (by omega) (ord_no2 ha2 (by omega) hpA (by omega) hpB hc9)).symm), (fun i hi => by cases hi)⟩
     ·
      refine OA.p (some 35) (.bool false) rfl rfl rfl (Eq.trans (r_bin rfl rfl rfl (b_lss rfl)) (dF hc5)) ?_
      refine OA.p (some 36) (.bool false) rfl rfl rfl rfl ?_
      refine OA.off (dst := (some 37)) rfl rfl rfl ?_
      refine OA.off (dst := (some 38)) rfl rfl rfl ?_
      refine OA.off (dst := (some 39)) rfl rfl rfl ?_
      refine OA.off (dst := (some 40)) rfl rfl rfl ?_
      refine OA.off (dst := (some 41)) rfl rfl rfl ?_
      refine OA.off (dst := (some 42)) rfl rfl rfl ?_
      refine OA.off (dst := (some 43)) rfl rfl rfl ?_
      refine OA.off (dst := (some 44)) rfl rfl rfl ?_
      refine OA.off (dst := (some 45)) rfl rfl rfl ?_
      refine OA.off (dst := (some 46)) rfl rfl rfl ?_
      refine OA.off (dst := (some 47)) rfl rfl rfl ?_
      refine OA.off (dst := (some 48)) rfl rfl rfl ?_
      refine OA.off (dst := (some 49)) rfl rfl rfl ?_
      refine OA.off (dst := (some 50)) rfl rfl rfl ?_
      refine OA.p (some 51) (.bool false) rfl rfl rfl rfl ?_
      refine OA.nil ?_
      intro _
      refine RA.condF rfl ?_
      refine RA.exit env_ok ?_
      intro _
      refine RA.seq hd ?_
      refine RA.seq hd ?_
      refine RA.par (md := [some [], some [], some [], some [], some [], some [], some [], some [ja], some [], some [ja], some [], some [], some [jb], some [], some [jb], some [], some []]) env_ok (hd.up (by omega)) (by kernel_rfl) ?_
      refine PQ.pure (dst := (some 54)) (v := (.int .i64 ((a2 : Nat) : Int))) rfl rfl rfl noStore (none_ok _ _) rfl ?_
      refine PQ.pure (dst := (some 55)) (v := (.slice (some ⟨ja, 0, none⟩) A 2)) rfl rfl rfl noStore (none_ok _ _) rfl ?_
      refine PQ.pure (dst := (some 56)) (v := (.int .i64 ((A : Nat) : Int))) rfl rfl rfl noStore (none_ok _ _) rfl ?_
      have hc10 : ((a2 : Nat) : Int) = ((A : Nat) : Int) := Classical.byContradiction (fun hdd => by exfalso; omega)
      refine PQ.pure (dst := (some 57)) (v := (.bool true)) rfl rfl rfl noStore (none_ok _ _) (Eq.trans (r_bin rfl rfl rfl (b_eql rfl)) (dT hc10)) ?_
      refine PQ.pure (dst := (some 58)) (v := (.bool true)) rfl rfl rfl noStore (none_ok _ _) rfl ?_
      refine PQ.off (dst := (some 59)) rfl rfl rfl ?_
      refine PQ.off (dst := (some 60)) rfl rfl rfl ?_
      refine PQ.off (dst := (some 61)) rfl rfl rfl ?_
      refine PQ.off (dst := (some 62)) rfl rfl rfl ?_
      refine PQ.off (dst := (some 63)) rfl rfl rfl ?_
      refine PQ.off (dst := (some 64)) rfl rfl rfl ?_
      refine PQ.off (dst := (some 65)) rfl rfl rfl ?_
      refine PQ.off (dst := (some 66)) rfl rfl rfl ?_
      refine PQ.off (dst := (some 67)) rfl rfl rfl ?_
      refine PQ.off (dst := (some 68)) rfl rfl rfl ?_
      refine PQ.off (dst := (some 69)) rfl rfl rfl ?_
      refine PQ.pure (dst := (some 70)) (v := (.bool true)) rfl rfl rfl noStore (none_ok _ _) rfl ?_
      refine PQ.done (d := []) (by kernel_rfl) ?_
      intro _
      refine RA.rebase [(0, (.slice (some ⟨ja, 0, none⟩) A 2)), (1, (.slice (some ⟨jb, 0, none⟩) B 2)), (5, (.int .i64 ((s : Nat) : Int))), (6, (.int .i64 ((a2 : Nat) : Int))), (7, (.int .i64 ((i : Nat) : Int))), (51, (.bool false)), (70, (.bool true))] ⟨rfl, rfl, rfl, rfl, rfl, rfl, rfl, trivial⟩ (fun τr6 => ?_)
      refine RA.condT rfl ?_
      refine RA.seq hd ?_
      refine RA.region env_ok ?_
      refine OA.p (some 4) (.bool false) rfl rfl rfl rfl ?_
      refine OA.nil ?_
      intro _
      refine RA.ret env_ok ?_
      refine ⟨.inr rfl, [(.bool false)], (resL_cons rfl resL_nil), (congrArg Value.bool (ord_false (by omega) (ord_no1 ha2 (by omega) (by omega) hpB)).symm), (fun i hi => by cases hi)⟩
  ·
   refine OA.p (some 15) (.bool false) rfl rfl rfl (Eq.trans (r_bin rfl rfl rfl (b_lss rfl)) (dF hc2)) ?_
   refine OA.nil ?_
   intro _
   refine RA.condF rfl ?_
   refine RA.exit env_ok ?_
   intro _
   refine RA.region env_ok ?_
   refine OA.p (some 10) (.int .i64 ((s : Nat) : Int)) rfl rfl rfl rfl ?_
   refine OA.p (some 11) (.int .i64 (((s + 1) : Nat) : Int)) rfl rfl rfl (r_bin rfl rfl rfl (b_add (i64_eq (by omega)))) ?_
   refine OA.p (some 5) (.int .i64 (((s + 1) : Nat) : Int)) rfl rfl rfl rfl ?_
   refine OA.nil ?_
   refine ⟨(2 - (s + 1)), by omega, [], (Less.refl _ _ _), (s + 1), rfl, by omega, ⟨rfl, rfl, rfl, trivial⟩, rfl, (fun i hi => by cases hi), ⟨by omega, ord_all hs2 (ord_yes hi3 (by omega))⟩⟩
 ·
  refine OA.p (some 9) (.bool false) rfl rfl rfl (Eq.trans (r_bin rfl rfl rfl (b_lss rfl)) (dF hc1)) ?_
  refine OA.nil ?_
  intro _
  refine RA.condF rfl ?_
  refine RA.exit env_ok ?_
  intro _
  refine RA.seq hd ?_
  refine RA.region env_ok ?_
  refine OA.p (some 4) (.bool true) rfl rfl rfl rfl ?_
  refine OA.nil ?_
  intro _
  refine RA.ret env_ok ?_
  refine ⟨.inr rfl, [(.bool true)], (resL_cons rfl resL_nil), (congrArg Value.bool (ord_true (by omega) hs2).symm), (fun i hi => by cases hi)⟩

theorem mLoo {σ : Store} (ja jb A B : Nat) (la lb : List Msg) (hla : la.length = A) (hlb : lb.length = B) (hA : A ≤ 1000) (hB : B ≤ 1000) (hka : ∀ m ∈ la, okM m) (hkb : ∀ m ∈ lb, okM m) (hja : σ ja = some (oMsg la)) (hjb : σ jb = some (oMsg lb))  : PS Try.prog noDen 35 [(.slice (some ⟨ja, 0, none⟩) A 2), (.slice (some ⟨jb, 0, none⟩) B 2)] σ (.bool (looseB la lb)) := by
 refine PS.body (E := env) env_ok rfl rfl (by show _ ≤ _; exact of_decide_eq_true (by kernel_rfl)) (fun n hd => ?_)
 have lhja := hd.lt hja
 have lhjb := hd.lt hjb
 refine RA.seq hd ?_
 refine RA.region env_ok ?_
 refine OA.p (some 4) (.bool false) rfl rfl rfl rfl ?_
 refine OA.nil ?_
 intro _
 refine RA.seq hd ?_
 refine RA.seq hd ?_
 refine RA.region env_ok ?_
 refine OA.p (some 5) (.int .i64 0) rfl rfl rfl rfl ?_
 refine OA.nil ?_
 intro _
 refine RA.block ?_
 refine RA.loop hd (fun kk_ τ n' D => ∃ i : Nat,  kk_ = (B - i) ∧ n ≤ n' ∧ Has τ [(0, (.slice (some ⟨ja, 0, none⟩) A 2)), (1, (.slice (some ⟨jb, 0, none⟩) B 2)), (5, (.int .i64 ((i : Nat) : Int)))] ∧ D = [] ∧ (∀ i ∈ keys D, i < n') ∧ i ≤ B ∧ (lb.take i).all (fitB la lb) = true) ((B - 0)) ⟨0, rfl, by omega, ⟨rfl, rfl, rfl, trivial⟩, rfl, (fun i hi => by cases hi), ⟨by omega, rfl⟩⟩ ?_
 rintro kn1 τ1 n1 _ ⟨i, rfl, hn1, hHn1, rfl, hKn1, hIn1⟩
 rw [Has.eq hHn1]
 simp only [keys, List.map, List.forall_mem_cons, List.mem_cons, List.not_mem_nil, false_imp_iff, implies_true, and_true] at hKn1
 obtain ⟨hi1, hi2⟩ := hIn1
 refine RA.seq hd ?_
 refine RA.seq hd ?_
 refine RA.region env_ok ?_
 refine OA.p (some 10) (.int .i64 ((i : Nat) : Int)) rfl rfl rfl rfl ?_
 refine OA.p (some 11) (.slice (some ⟨jb, 0, none⟩) B 2) rfl rfl rfl rfl ?_
 refine OA.p (some 12) (.int .i64 ((B : Nat) : Int)) rfl rfl rfl rfl ?_
 by_cases hc1 : ((i : Nat) : Int) < ((B : Nat) : Int)
 ·
  refine OA.p (some 13) (.bool true) rfl rfl rfl (Eq.trans (r_bin rfl rfl rfl (b_lss rfl)) (dT hc1)) ?_
  refine OA.nil ?_
  intro _
  refine RA.condT rfl ?_
  refine RA.skip env_ok ?_
  intro _
  refine RA.seq hd ?_
  refine RA.block ?_
  refine RA.seq hd ?_
  refine RA.region env_ok ?_
  refine OA.p (some 6) (.int .i64 0) rfl rfl rfl rfl ?_
  refine OA.p (some 7) (.int .i64 0) rfl rfl rfl rfl ?_
  refine OA.nil ?_
  intro _
  refine RA.seq hd ?_
  refine RA.seq hd ?_
  refine RA.region env_ok ?_
  refine OA.p (some 8) (.int .i64 0) rfl rfl rfl rfl ?_
  refine OA.nil ?_
  intro _
  refine RA.block ?_
  refine RA.loop hd (fun kk_ τ n' D => ∃ a1 : Nat, ∃ q1 : Nat,  kk_ = (B - q1) ∧ n1 ≤ n' ∧ Has τ [(0, (.slice (some ⟨ja, 0, none⟩) A 2)), (1, (.slice (some ⟨jb, 0, none⟩) B 2)), (5, (.int .i64 ((i : Nat) : Int))), (6, (.int .i64 ((a1 : Nat) : Int))), (7, (.int .i64 0)), (8, (.int .i64 ((q1 : Nat) : Int)))] ∧ D = [] ∧ (∀ i ∈ keys D, i < n') ∧ q1 ≤ B ∧ (lb.take q1).count (lb.getD i dMsg) = a1 ∧ a1 ≤ q1) ((B - 0)) ⟨0, 0, rfl, by omega, ⟨rfl, rfl, rfl, rfl, rfl, rfl, trivial⟩, rfl, (fun i hi => by cases hi), ⟨by omega, rfl, by omega⟩⟩ ?_
  rintro kn2 τ2 n2 _ ⟨a1, q1, rfl, hn2, hHn2, rfl, hKn2, hIn2⟩
  rw [Has.eq hHn2]
  simp only [keys, List.map, List.forall_mem_cons, List.mem_cons, List.not_mem_nil, false_imp_iff, implies_true, and_true] at hKn2
  obtain ⟨ha1, ha2, ha3⟩ := hIn2
  refine RA.seq hd ?_
  refine RA.seq hd ?_
  refine RA.region env_ok ?_
  refine OA.p (some 16) (.int .i64 ((q1 : Nat) : Int)) rfl rfl rfl rfl ?_
  refine OA.p (some 17) (.slice (some ⟨jb, 0, none⟩) B 2) rfl rfl rfl rfl ?_
  refine OA.p (some 18) (.int .i64 ((B : Nat) : Int)) rfl rfl rfl rfl ?_
  by_cases hc2 : ((q1 : Nat) : Int) < ((B : Nat) : Int)
  ·
   refine OA.p (some 19) (.bool true) rfl rfl rfl (Eq.trans (r_bin rfl rfl rfl (b_lss rfl)) (dT hc2)) ?_
   refine OA.nil ?_
   intro _
   refine RA.condT rfl ?_
   refine RA.skip env_ok ?_
   intro _
   refine RA.seq hd ?_
   refine RA.block ?_
   refine RA.seq hd ?_
   refine RA.par (md := [some [], some [], some [jb], some [jb], some [], some [], some [jb], some [jb], some []]) env_ok (hd.up (by omega)) (by kernel_rfl) ?_
   refine PQ.pure (dst := (some 22)) (v := (.slice (some ⟨jb, 0, none⟩) B 2)) rfl rfl rfl noStore (none_ok _ _) rfl ?_
   refine PQ.pure (dst := (some 23)) (v := (.int .i64 ((q1 : Nat) : Int))) rfl rfl rfl noStore (none_ok _ _) rfl ?_
   refine PQ.pure (dst := (some 24)) (v := (Pt jb q1 0)) rfl rfl rfl (app [(jb, some (oMsg lb))] noStore) (seen_one (V := []) (D := []) (by kernel_rfl) hjb) (r_iaS (l := q1) rfl rfl rfl rfl rfl rfl (by omega) (by omega) get_here rfl (by omega)) ?_
   refine PQ.pure (dst := (some 25)) (v := (.agg ⟨(cMsg (lb.getD q1 dMsg))⟩)) rfl rfl rfl (app [(jb, some (oMsg lb))] noStore) (seen_one (V := []) (D := []) (by kernel_rfl) hjb) (r_loadR (c := cMsg) dMsg rfl rfl rfl rfl get_here (by rw [hlb]; omega) rfl) ?_
   refine PQ.pure (dst := (some 26)) (v := (.slice (some ⟨jb, 0, none⟩) B 2)) rfl rfl rfl noStore (none_ok _ _) rfl ?_
   refine PQ.pure (dst := (some 27)) (v := (.int .i64 ((i : Nat) : Int))) rfl rfl rfl noStore (none_ok _ _) rfl ?_
   refine PQ.pure (dst := (some 28)) (v := (Pt jb i 0)) rfl rfl rfl (app [(jb, some (oMsg lb))] noStore) (seen_one (V := []) (D := []) (by kernel_rfl) hjb) (r_iaS (l := i) rfl rfl rfl rfl rfl rfl (by omega) (by omega) get_here rfl (by omega)) ?_
   refine PQ.pure (dst := (some 29)) (v := (.agg ⟨(cMsg (lb.getD i dMsg))⟩)) rfl rfl rfl (app [(jb, some (oMsg lb))] noStore) (seen_one (V := []) (D := []) (by kernel_rfl) hjb) (r_loadR (c := cMsg) dMsg rfl rfl rfl rfl get_here (by rw [hlb]; omega) rfl) ?_
   by_cases hc3 : (lb.getD q1 dMsg) = (lb.getD i dMsg)
   ·
    refine PQ.pure (dst := (some 30)) (v := (.bool true)) rfl rfl rfl noStore (none_ok _ _) (Eq.trans (r_eqlA (r := (decide ((lb.getD q1 dMsg) = (lb.getD i dMsg)))) rfl rfl rfl (by kernel_rfl) (aeqM (lb.getD q1 dMsg) (lb.getD i dMsg))) (dT hc3)) ?_
    refine PQ.done (d := []) (by kernel_rfl) ?_
    intro _
    refine RA.condT rfl ?_
    refine RA.region env_ok ?_
    refine OA.p (some 31) (.int .i64 ((a1 : Nat) : Int)) rfl rfl rfl rfl ?_
    refine OA.p (some 32) (.int .i64 (((a1 + 1) : Nat) : Int)) rfl rfl rfl (r_bin rfl rfl rfl (b_add (i64_eq (by omega)))) ?_
    refine OA.p (some 6) (.int .i64 (((a1 + 1) : Nat) : Int)) rfl rfl rfl rfl ?_
    refine OA.nil ?_
    intro _
    refine RA.region env_ok ?_
    refine OA.p (some 20) (.int .i64 ((q1 : Nat) : Int)) rfl rfl rfl rfl ?_
    refine OA.p (some 21) (.int .i64 (((q1 + 1) : Nat) : Int)) rfl rfl rfl (r_bin rfl rfl rfl (b_add (i64_eq (by omega)))) ?_
    refine OA.p (some 8) (.int .i64 (((q1 + 1) : Nat) : Int)) rfl rfl rfl rfl ?_
    refine OA.nil ?_
    refine ⟨(B - (q1 + 1)), by omega, [], (Less.refl _ _ _), (a1 + 1), (q1 + 1), rfl, by omega, ⟨rfl, rfl, rfl, rfl, rfl, rfl, trivial⟩, rfl, (fun i hi => by cases hi), ⟨by omega, cnt_yes (by omega) ha2 hc3, by omega⟩⟩
   ·
    refine PQ.pure (dst := (some 30)) (v := (.bool false)) rfl rfl rfl noStore (none_ok _ _) (Eq.trans (r_eqlA (r := (decide ((lb.getD q1 dMsg) = (lb.getD i dMsg)))) rfl rfl rfl (by kernel_rfl) (aeqM (lb.getD q1 dMsg) (lb.getD i dMsg))) (dF hc3)) ?_
    refine PQ.done (d := []) (by kernel_rfl) ?_
    intro _
    refine RA.condF rfl ?_
    refine RA.skip env_ok ?_
    intro _
    refine RA.region env_ok ?_
    refine OA.p (some 20) (.int .i64 ((q1 : Nat) : Int)) rfl rfl rfl rfl ?_
    refine OA.p (some 21) (.int .i64 (((q1 + 1) : Nat) : Int)) rfl rfl rfl (r_bin rfl rfl rfl (b_add (i64_eq (by omega)))) ?_
    refine OA.p (some 8) (.int .i64 (((q1 + 1) : Nat) : Int)) rfl rfl rfl rfl ?_
    refine OA.nil ?_
    refine ⟨(B - (q1 + 1)), by omega, [], (Less.refl _ _ _), a1, (q1 + 1), rfl, by omega, ⟨rfl, rfl, rfl, rfl, rfl, rfl, trivial⟩, rfl, (fun i hi => by cases hi), ⟨by omega, cnt_no (by omega) ha2 hc3, by omega⟩⟩
  ·
   refine OA.p (some 19) (.bool false) rfl rfl rfl (Eq.trans (r_bin rfl rfl rfl (b_lss rfl)) (dF hc2)) ?_
   refine OA.nil ?_
   intro _
   refine RA.condF rfl ?_
   refine RA.exit env_ok ?_
   intro _
   refine RA.seq hd ?_
   refine RA.seq hd ?_
   refine RA.region env_ok ?_
   refine OA.p (some 9) (.int .i64 0) rfl rfl rfl rfl ?_
   refine OA.nil ?_
   intro _
   refine RA.block ?_
   refine RA.loop hd (fun kk_ τ n' D => ∃ b1 : Nat, ∃ q2 : Nat,  kk_ = (A - q2) ∧ n2 ≤ n' ∧ Has τ [(0, (.slice (some ⟨ja, 0, none⟩) A 2)), (1, (.slice (some ⟨jb, 0, none⟩) B 2)), (5, (.int .i64 ((i : Nat) : Int))), (6, (.int .i64 ((a1 : Nat) : Int))), (7, (.int .i64 ((b1 : Nat) : Int))), (9, (.int .i64 ((q2 : Nat) : Int)))] ∧ D = [] ∧ (∀ i ∈ keys D, i < n') ∧ q2 ≤ A ∧ (la.take q2).count (lb.getD i dMsg) = b1 ∧ b1 ≤ q2) ((A - 0)) ⟨0, 0, rfl, by omega, ⟨rfl, rfl, rfl, rfl, rfl, rfl, trivial⟩, rfl, (fun i hi => by cases hi), ⟨by omega, rfl, by omega⟩⟩ ?_
   rintro kn3 τ3 n3 _ ⟨b1, q2, rfl, hn3, hHn3, rfl, hKn3, hIn3⟩
   rw [Has.eq hHn3]
   simp only [keys, List.map, List.forall_mem_cons, List.mem_cons, List.not_mem_nil, false_imp_iff, implies_true, and_true] at hKn3
   obtain ⟨hb1, hb2, hb3⟩ := hIn3
   refine RA.seq hd ?_
   refine RA.seq hd ?_
   refine RA.region env_ok ?_
   refine OA.p (some 33) (.int .i64 ((q2 : Nat) : Int)) rfl rfl rfl rfl ?_
   refine OA.p (some 34) (.slice (some ⟨ja, 0, none⟩) A 2) rfl rfl rfl rfl ?_
   refine OA.p (some 35) (.int .i64 ((A : Nat) : Int)) rfl rfl rfl rfl ?_
   by_cases hc4 : ((q2 : Nat) : Int) < ((A : Nat) : Int)
   ·
    refine OA.p (some 36) (.bool true) rfl rfl rfl (Eq.trans (r_bin rfl rfl rfl (b_lss rfl)) (dT hc4)) ?_
    refine OA.nil ?_
    intro _
    refine RA.condT rfl ?_
    refine RA.skip env_ok ?_
    intro _
    refine RA.seq hd ?_
    refine RA.block ?_
    refine RA.seq hd ?_
    refine RA.par (md := [some [], some [], some [ja], some [ja], some [], some [], some [jb], some [jb], some []]) env_ok (hd.up (by omega)) (by kernel_rfl) ?_
    refine PQ.pure (dst := (some 39)) (v := (.slice (some ⟨ja, 0, none⟩) A 2)) rfl rfl rfl noStore (none_ok _ _) rfl ?_
    refine PQ.pure (dst := (some 40)) (v := (.int .i64 ((q2 : Nat) : Int))) rfl rfl rfl noStore (none_ok _ _) rfl ?_
    refine PQ.pure (dst := (some 41)) (v := (Pt ja q2 0)) rfl rfl rfl (app [(ja, some (oMsg la))] noStore) (seen_one (V := []) (D := []) (by kernel_rfl) hja) (r_iaS (l := q2) rfl rfl rfl rfl rfl rfl (by omega) (by omega) get_here rfl (by omega)) ?_
    refine PQ.pure (dst := (some 42)) (v := (.agg ⟨(cMsg (la.getD q2 dMsg))⟩)) rfl rfl rfl (app [(ja, some (oMsg la))] noStore) (seen_one (V := []) (D := []) (by kernel_rfl) hja) (r_loadR (c := cMsg) dMsg rfl rfl rfl rfl get_here (by rw [hla]; omega) rfl) ?_
    refine PQ.pure (dst := (some 43)) (v := (.slice (some ⟨jb, 0, none⟩) B 2)) rfl rfl rfl noStore (none_ok _ _) rfl ?_
    refine PQ.pure (dst := (some 44)) (v := (.int .i64 ((i : Nat) : Int))) rfl rfl rfl noStore (none_ok _ _) rfl ?_
    refine PQ.pure (dst := (some 45)) (v := (Pt jb i 0)) rfl rfl rfl (app [(jb, some (oMsg lb))] noStore) (seen_one (V := []) (D := []) (by kernel_rfl) hjb) (r_iaS (l := i) rfl rfl rfl rfl rfl rfl (by omega) (by omega) get_here rfl (by omega)) ?_
    refine PQ.pure (dst := (some 46)) (v := (.agg ⟨(cMsg (lb.getD i dMsg))⟩)) rfl rfl rfl (app [(jb, some (oMsg lb))] noStore) (seen_one (V := []) (D := []) (by kernel_rfl) hjb) (r_loadR (c := cMsg) dMsg rfl rfl rfl rfl get_here (by rw [hlb]; omega) rfl) ?_
    by_cases hc5 : (la.getD q2 dMsg) = (lb.getD i dMsg)
    ·
     refine PQ.pure (dst := (some 47)) (v := (.bool true)) rfl rfl rfl noStore (none_ok _ _) (Eq.trans (r_eqlA (r := (decide ((la.getD q2 dMsg) = (lb.getD i dMsg)))) rfl rfl rfl (by kernel_rfl) (aeqM (la.getD q2 dMsg) (lb.getD i dMsg))) (dT hc5)) ?_
     refine PQ.done (d := []) (by kernel_rfl) ?_
     intro _
     refine RA.condT rfl ?_
     refine RA.region env_ok ?_
     refine OA.p (some 48) (.int .i64 ((b1 : Nat) : Int)) rfl rfl rfl rfl ?_
     refine OA.p (some 49) (.int .i64 (((b1 + 1) : Nat) : Int)) rfl rfl rfl (r_bin rfl rfl rfl (b_add (i64_eq (by omega)))) ?_
     refine OA.p (some 7) (.int .i64 (((b1 + 1) : Nat) : Int)) rfl rfl rfl rfl ?_
     refine OA.nil ?_
     intro _
     refine RA.region env_ok ?_
     refine OA.p (some 37) (.int .i64 ((q2 : Nat) : Int)) rfl rfl rfl rfl ?_
     refine OA.p (some 38) (.int .i64 (((q2 + 1) : Nat) : Int)) rfl rfl rfl (r_bin rfl rfl rfl (b_add (i64_eq (by omega)))) ?_
     refine OA.p (some 9) (.int .i64 (((q2 + 1) : Nat) : Int)) rfl rfl rfl rfl ?_
     refine OA.nil ?_
     refine ⟨(A - (q2 + 1)), by omega, [], (Less.refl _ _ _), (b1 + 1), (q2 + 1), rfl, by omega, ⟨rfl, rfl, rfl, rfl, rfl, rfl, trivial⟩, rfl, (fun i hi => by cases hi), ⟨by omega, cnt_yes (by omega) hb2 hc5, by omega⟩⟩
    ·
     refine PQ.pure (dst := (some 47)) (v := (.bool false)) rfl rfl rfl noStore (none_ok _ _) (Eq.trans (r_eqlA (r := (decide ((la.getD q2 dMsg) = (lb.getD i dMsg)))) rfl rfl rfl (by kernel_rfl) (aeqM (la.getD q2 dMsg) (lb.getD i dMsg))) (dF hc5)) ?_
     refine PQ.done (d := []) (by kernel_rfl) ?_
     intro _
     refine RA.condF rfl ?_
     refine RA.skip env_ok ?_
     intro _
     refine RA.region env_ok ?_
     refine OA.p (some 37) (.int .i64 ((q2 : Nat) : Int)) rfl rfl rfl rfl ?_
     refine OA.p (some 38) (.int .i64 (((q2 + 1) : Nat) : Int)) rfl rfl rfl (r_bin rfl rfl rfl (b_add (i64_eq (by omega)))) ?_
     refine OA.p (some 9) (.int .i64 (((q2 + 1) : Nat) : Int)) rfl rfl rfl rfl ?_
     refine OA.nil ?_
     refine ⟨(A - (q2 + 1)), by omega, [], (Less.refl _ _ _), b1, (q2 + 1), rfl, by omega, ⟨rfl, rfl, rfl, rfl, rfl, rfl, trivial⟩, rfl, (fun i hi => by cases hi), ⟨by omega, cnt_no (by omega) hb2 hc5, by omega⟩⟩
   ·
    refine OA.p (some 36) (.bool false) rfl rfl rfl (Eq.trans (r_bin rfl rfl rfl (b_lss rfl)) (dF hc4)) ?_
    refine OA.nil ?_
    intro _
    refine RA.condF rfl ?_
    refine RA.exit env_ok ?_
    intro _
    refine RA.seq hd ?_
    refine RA.region env_ok ?_
    refine OA.p (some 50) (.slice (some ⟨jb, 0, none⟩) B 2) rfl rfl rfl rfl ?_
    refine OA.p (some 51) (.int .i64 ((i : Nat) : Int)) rfl rfl rfl rfl ?_
    refine OA.p (some 52) (Pt jb i 0) rfl rfl rfl (r_iaS (l := i) rfl rfl rfl rfl rfl rfl (by omega) (by omega) hjb rfl (by omega)) ?_
    refine OA.p (some 53) (Pt jb i 2) rfl rfl rfl rfl ?_
    by_cases hc6 : (lb.getD i dMsg).loose = true
    ·
     refine OA.p (some 54) (.bool true) rfl rfl rfl (Eq.trans (r_loadF (c := cMsg) dMsg rfl rfl rfl rfl rfl hjb (by rw [hlb]; omega) rfl) (bT hc6)) ?_
     refine OA.p (some 55) (.bool true) rfl rfl rfl rfl ?_
     refine OA.p (some 56) (.int .i64 ((a1 : Nat) : Int)) rfl rfl rfl rfl ?_
     refine OA.p (some 57) (.int .i64 ((b1 : Nat) : Int)) rfl rfl rfl rfl ?_
     by_cases hc7 : ((b1 : Nat) : Int) < ((a1 : Nat) : Int)
     ·
      refine OA.p (some 58) (.bool true) rfl rfl rfl (Eq.trans (r_bin rfl rfl rfl (b_gtr rfl)) (dT hc7)) ?_
      refine OA.p (some 59) (.bool true) rfl rfl rfl rfl ?_
      refine OA.nil ?_
      intro _
      refine RA.condT rfl ?_
      refine RA.seq hd ?_
      refine RA.region env_ok ?_
      refine OA.p (some 4) (.bool false) rfl rfl rfl rfl ?_
      refine OA.nil ?_
      intro _
      refine RA.ret env_ok ?_
      refine ⟨.inr rfl, [(.bool false)], (resL_cons rfl resL_nil), (congrArg Value.bool (loose_no (by omega) hc6 (by rw [cnt_all (by omega) ha2, cnt_all (by omega) hb2]; omega)).symm), (fun i hi => by cases hi)⟩
     ·
      refine OA.p (some 58) (.bool false) rfl rfl rfl (Eq.trans (r_bin rfl rfl rfl (b_gtr rfl)) (dF hc7)) ?_
      refine OA.p (some 59) (.bool false) rfl rfl rfl rfl ?_
      refine OA.nil ?_
      intro _
      refine RA.condF rfl ?_
      refine RA.skip env_ok ?_
      intro _
      refine RA.region env_ok ?_
      refine OA.p (some 14) (.int .i64 ((i : Nat) : Int)) rfl rfl rfl rfl ?_
      refine OA.p (some 15) (.int .i64 (((i + 1) : Nat) : Int)) rfl rfl rfl (r_bin rfl rfl rfl (b_add (i64_eq (by omega)))) ?_
      refine OA.p (some 5) (.int .i64 (((i + 1) : Nat) : Int)) rfl rfl rfl rfl ?_
      refine OA.nil ?_
      refine ⟨(B - (i + 1)), by omega, [], (Less.refl _ _ _), (i + 1), rfl, by omega, ⟨rfl, rfl, rfl, trivial⟩, rfl, (fun i hi => by cases hi), ⟨by omega, all_succ (by omega) hi2 (by unfold fitB; rw [cnt_all (by omega) ha2, cnt_all (by omega) hb2]; simp only [Bool.or_eq_true, Bool.not_eq_true', decide_eq_true_eq]; right; omega)⟩⟩
    ·
     refine OA.p (some 54) (.bool false) rfl rfl rfl (Eq.trans (r_loadF (c := cMsg) dMsg rfl rfl rfl rfl rfl hjb (by rw [hlb]; omega) rfl) (bF hc6)) ?_
     refine OA.p (some 55) (.bool false) rfl rfl rfl rfl ?_
     refine OA.off (dst := (some 56)) rfl rfl rfl ?_
     refine OA.off (dst := (some 57)) rfl rfl rfl ?_
     refine OA.off (dst := (some 58)) rfl rfl rfl ?_
     refine OA.p (some 59) (.bool false) rfl rfl rfl rfl ?_
     refine OA.nil ?_
     intro _
     refine RA.condF rfl ?_
     refine RA.skip env_ok ?_
     intro _
     refine RA.region env_ok ?_
     refine OA.p (some 14) (.int .i64 ((i : Nat) : Int)) rfl rfl rfl rfl ?_
     refine OA.p (some 15) (.int .i64 (((i + 1) : Nat) : Int)) rfl rfl rfl (r_bin rfl rfl rfl (b_add (i64_eq (by omega)))) ?_
     refine OA.p (some 5) (.int .i64 (((i + 1) : Nat) : Int)) rfl rfl rfl rfl ?_
     refine OA.nil ?_
     refine ⟨(B - (i + 1)), by omega, [], (Less.refl _ _ _), (i + 1), rfl, by omega, ⟨rfl, rfl, rfl, trivial⟩, rfl, (fun i hi => by cases hi), ⟨by omega, all_succ (by omega) hi2 (by unfold fitB; rw [cnt_all (by omega) ha2, cnt_all (by omega) hb2]; simp only [Bool.or_eq_true, Bool.not_eq_true', decide_eq_true_eq]; left; exact Bool.eq_false_iff.2 hc6)⟩⟩
 ·
  refine OA.p (some 13) (.bool false) rfl rfl rfl (Eq.trans (r_bin rfl rfl rfl (b_lss rfl)) (dF hc1)) ?_
  refine OA.nil ?_
  intro _
  refine RA.condF rfl ?_
  refine RA.exit env_ok ?_
  intro _
  refine RA.seq hd ?_
  refine RA.region env_ok ?_
  refine OA.p (some 4) (.bool true) rfl rfl rfl rfl ?_
  refine OA.nil ?_
  intro _
  refine RA.ret env_ok ?_
  refine ⟨.inr rfl, [(.bool true)], (resL_cons rfl resL_nil), (congrArg Value.bool (loose_end (by omega) hi2).symm), (fun i hi => by cases hi)⟩

theorem mHC {σ : Store} (x m : Msg) (k1 : Nat) (hx : okM x) (hm : okM m) (hk1 : σ k1 = some ⟨[(cMsg m)], 5, 117, true⟩)  : PS Try.prog noDen 79 [(.agg ⟨(cMsg x)⟩), (Pt k1 0 0)] σ (.bool (decide (x = m))) := by
 refine PS.body (E := env) env_ok rfl rfl (by show _ ≤ _; exact of_decide_eq_true (by kernel_rfl)) (fun n hd => ?_)
 have lhk1 := hd.lt hk1
 refine RA.seq hd ?_
 refine RA.region env_ok ?_
 refine OA.op1 (dst := (some 2)) (v := (Pt n 0 0)) (n1 := (n + 1)) (w := (n, some ⟨[(cMsg x)], 5, 117, true⟩)) rfl rfl rfl rfl (by omega) ?_
 refine OA.p (some 3) (.bool false) rfl rfl rfl rfl ?_
 refine OA.nil ?_
 intro _
 refine RA.seq hd ?_
 refine RA.region env_ok ?_
 refine OA.p (some 4) (.agg ⟨[(.int .i64 x.st), (.int .i64 x.ssn), (.bool x.loose), (W x.proto), (.string x.data)]⟩) rfl rfl rfl (r_loadA rfl rfl rfl rfl get_here rfl rfl rfl) ?_
 refine OA.p (some 5) (.agg ⟨[(.int .i64 m.st), (.int .i64 m.ssn), (.bool m.loose), (W m.proto), (.string m.data)]⟩) rfl rfl rfl (r_loadA rfl rfl rfl rfl (get_there (by omega) hk1) rfl rfl rfl) ?_
 refine OA.callP (dst := (some 6)) (all := [(.agg ⟨[(.int .i64 x.st), (.int .i64 x.ssn), (.bool x.loose), (W x.proto), (.string x.data)]⟩), (.agg ⟨[(.int .i64 m.st), (.int .i64 m.ssn), (.bool m.loose), (W m.proto), (.string m.data)]⟩)]) (v := (.bool (decide (x = m)))) (hd.of (by omega) (kb1 (by omega))) rfl rfl rfl rfl rfl rfl rfl rfl (mSame x m hx hm) ?_
 intro n1 hn1
 refine OA.p (some 3) (.bool (decide (x = m))) rfl rfl rfl rfl ?_
 refine OA.nil ?_
 intro _
 refine RA.ret env_ok ?_
 refine ⟨.inr rfl, [(.bool (decide (x = m)))], (resL_cons rfl resL_nil), rfl, (kc1 (by omega))⟩

theorem mIdx {σ : Store} (j N : Nat) (l : List Msg) (hl : l.length = N) (hN : N ≤ 1000000) (p : Msg → Bool) (b : Nat) (hj : σ j = some (oMsg l)) (hf : ∀ x ∈ l, PS Try.prog noDen 79 [.agg ⟨cMsg x⟩, (Pt b 0 0)] σ (.bool (p x))) : PS Try.prog noDen 78 [(.slice (some ⟨j, 0, none⟩) N 2), (.func (.func 79) ⟨[]⟩ ⟨[(Pt b 0 0)]⟩)] σ (.int .i64 (idxZ p l)) := by
 refine PS.body (E := env) env_ok rfl rfl (by show _ ≤ _; exact of_decide_eq_true (by kernel_rfl)) (fun n hd => ?_)
 have lhj := hd.lt hj
 refine RA.seq hd ?_
 refine RA.region env_ok ?_
 refine OA.p (some 4) (.int .i64 0) rfl rfl rfl rfl ?_
 refine OA.nil ?_
 intro _
 refine RA.seq hd ?_
 refine RA.seq hd ?_
 refine RA.region env_ok ?_
 refine OA.p (some 6) (.slice (some ⟨j, 0, none⟩) N 2) rfl rfl rfl rfl ?_
 refine OA.p (some 7) (.int .i64 ((N : Nat) : Int)) rfl rfl rfl rfl ?_
 refine OA.p (some 8) (.int .i64 0) rfl rfl rfl rfl ?_
 refine OA.nil ?_
 intro _
 refine RA.block ?_
 refine RA.loop hd (fun kk_ τ n' D => ∃ i : Nat,  kk_ = (N - i) ∧ n ≤ n' ∧ Has τ [(0, (.slice (some ⟨j, 0, none⟩) N 2)), (1, (.func (.func 79) ⟨[]⟩ ⟨[(Pt b 0 0)]⟩)), (7, (.int .i64 ((N : Nat) : Int))), (8, (.int .i64 ((i : Nat) : Int)))] ∧ D = [] ∧ (∀ i ∈ keys D, i < n') ∧ i ≤ N ∧ i ≤ l.findIdx p) ((N - 0)) ⟨0, rfl, by omega, ⟨rfl, rfl, rfl, rfl, trivial⟩, rfl, (fun i hi => by cases hi), ⟨by omega, by omega⟩⟩ ?_
 rintro kn1 τ1 n1 _ ⟨i, rfl, hn1, hHn1, rfl, hKn1, hIn1⟩
 rw [Has.eq hHn1]
 simp only [keys, List.map, List.forall_mem_cons, List.mem_cons, List.not_mem_nil, false_imp_iff, implies_true, and_true] at hKn1
 obtain ⟨hi1, hi2⟩ := hIn1
 refine RA.seq hd ?_
 refine RA.region env_ok ?_
 by_cases hc1 : ((i : Nat) : Int) < ((N : Nat) : Int)
 ·
  refine OA.p (some 9) (.bool true) rfl rfl rfl (Eq.trans (r_bin rfl rfl rfl (b_lss rfl)) (dT hc1)) ?_
  refine OA.nil ?_
  intro _
  refine RA.seq hd ?_
  refine RA.condT rfl ?_
  refine RA.skip env_ok ?_
  intro _
  refine RA.seq hd ?_
  refine RA.block ?_
  refine RA.seq hd ?_
  refine RA.region env_ok ?_
  refine OA.p (some 10) (.int .i64 ((i : Nat) : Int)) rfl rfl rfl rfl ?_
  refine OA.p (some 5) (.int .i64 ((i : Nat) : Int)) rfl rfl rfl rfl ?_
  refine OA.nil ?_
  intro _
  refine RA.seq hd ?_
  refine RA.region env_ok ?_
  refine OA.p (some 11) (.func (.func 79) ⟨[]⟩ ⟨[(Pt b 0 0)]⟩) rfl rfl rfl rfl ?_
  refine OA.p (some 12) (.slice (some ⟨j, 0, none⟩) N 2) rfl rfl rfl rfl ?_
  refine OA.p (some 13) (.int .i64 ((i : Nat) : Int)) rfl rfl rfl rfl ?_
  refine OA.p (some 14) (Pt j i 0) rfl rfl rfl (r_iaS (l := i) rfl rfl rfl rfl rfl rfl (by omega) (by omega) hj rfl (by omega)) ?_
  refine OA.p (some 15) (.agg ⟨(cMsg (l.getD i dMsg))⟩) rfl rfl rfl (r_loadR (c := cMsg) dMsg rfl rfl rfl rfl hj (by rw [hl]; omega) rfl) ?_
  by_cases hc2 : (p (l.getD i dMsg)) = true
  ·
   have hfi := fi_found (d := dMsg) (by omega) hc2 (by omega)
   refine OA.callP (dst := (some 16)) (all := [(.agg ⟨(cMsg (l.getD i dMsg))⟩), (Pt b 0 0)]) (v := (.bool true)) (hd.up (by omega)) rfl rfl rfl rfl rfl rfl rfl rfl (PS.to (hf (l.getD i dMsg) (getD_mem (by omega))) (show (.bool (p (l.getD i dMsg))) = ((.bool true) : Value) from (by first | (rw [hc2]; done) | (rw [hc2]; rfl)))) ?_
   intro n2 hn2
   refine OA.nil ?_
   intro _
   refine RA.condT rfl ?_
   refine RA.seq hd ?_
   refine RA.region env_ok ?_
   refine OA.p (some 17) (.int .i64 ((i : Nat) : Int)) rfl rfl rfl rfl ?_
   refine OA.p (some 4) (.int .i64 ((i : Nat) : Int)) rfl rfl rfl rfl ?_
   refine OA.nil ?_
   intro _
   refine RA.ret env_ok ?_
   refine ⟨.inr rfl, [(.int .i64 ((i : Nat) : Int))], (resL_cons rfl resL_nil), (by show Value.int _ _ = Value.int _ _; unfold idxZ; rw [if_pos (by omega), hfi]), (fun i hi => by cases hi)⟩
  ·
   have hfi := fi_step (d := dMsg) (by omega) hc2 (by omega)
   refine OA.callP (dst := (some 16)) (all := [(.agg ⟨(cMsg (l.getD i dMsg))⟩), (Pt b 0 0)]) (v := (.bool false)) (hd.up (by omega)) rfl rfl rfl rfl rfl rfl rfl rfl (PS.to (hf (l.getD i dMsg) (getD_mem (by omega))) (show (.bool (p (l.getD i dMsg))) = ((.bool false) : Value) from (by first | (rw [eq_false_of_ne_true hc2]; done) | (rw [eq_false_of_ne_true hc2]; rfl)))) ?_
   intro n3 hn3
   refine OA.nil ?_
   intro _
   refine RA.condF rfl ?_
   refine RA.skip env_ok ?_
   intro _
   refine RA.region env_ok ?_
   refine OA.p (some 18) (.int .i64 (((i + 1) : Nat) : Int)) rfl rfl rfl (r_bin rfl rfl rfl (b_add (i64_eq (by omega)))) ?_
   refine OA.p (some 8) (.int .i64 (((i + 1) : Nat) : Int)) rfl rfl rfl rfl ?_
   refine OA.nil ?_
   refine ⟨(N - (i + 1)), by omega, [], (Less.refl _ _ _), (i + 1), rfl, by omega, ⟨rfl, rfl, rfl, rfl, trivial⟩, rfl, (fun i hi => by cases hi), ⟨by omega, by omega⟩⟩
 ·
  refine OA.p (some 9) (.bool false) rfl rfl rfl (Eq.trans (r_bin rfl rfl rfl (b_lss rfl)) (dF hc1)) ?_
  refine OA.nil ?_
  intro _
  refine RA.seq hd ?_
  refine RA.condF rfl ?_
  refine RA.exit env_ok ?_
  intro _
  refine RA.seq hd ?_
  refine RA.region env_ok ?_
  refine OA.p (some 4) (.int .i64 (-1)) rfl rfl rfl rfl ?_
  refine OA.nil ?_
  intro _
  refine RA.ret env_ok ?_
  refine ⟨.inr rfl, [(.int .i64 (-1))], (resL_cons rfl resL_nil), (by show Value.int _ _ = Value.int _ _; unfold idxZ; rw [if_neg (by omega)]), (fun i hi => by cases hi)⟩

theorem mDel_0 {n : Nat} {σ : Store} (hd : Dom n σ) (j N i : Nat) (l : List Msg) (hl : l.length = N) (hi : i < N) (hN : N ≤ 1000000) (hj : σ j = some (oMsg l))  : CQ Try.prog noDen 80 [(.slice (some ⟨j, 0, none⟩) N 0), (.int .i64 ((i : Nat) : Int)), (.int .i64 (((i + 1) : Nat) : Int))] n σ (fun v n' d => ∃ LL : List Msg, v = .slice (some ⟨j, 0, none⟩) (N - 1) 0 ∧ LL.take (N - 1) = l.eraseIdx i ∧ d = [(j, some (oMsg LL))]) := by
 have lhj := hd.lt hj
 refine CQ.body (E := env) env_ok hd rfl rfl (by show _ ≤ _; exact of_decide_eq_true (by kernel_rfl)) ?_
 refine RA.seq hd ?_
 refine RA.region env_ok ?_
 refine OA.p (some 6) (.slice none 0 0) rfl rfl rfl rfl ?_
 refine OA.nil ?_
 intro _
 refine RA.seq hd ?_
 refine RA.region env_ok ?_
 refine OA.p (some 8) (.slice (some ⟨j, 0, none⟩) N 0) rfl rfl rfl rfl ?_
 refine OA.p (some 9) (.int .i64 ((i : Nat) : Int)) rfl rfl rfl rfl ?_
 refine OA.p (some 10) (.int .i64 (((i + 1) : Nat) : Int)) rfl rfl rfl rfl ?_
 refine OA.p (some 11) (.slice (some ⟨j, 0, none⟩) N 0) rfl rfl rfl rfl ?_
 refine OA.p (some 12) (.int .i64 ((N : Nat) : Int)) rfl rfl rfl rfl ?_
 by_cases hc1 : i + 1 = N
 ·
  refine OA.p (some 13) (.slice (some ⟨j, i, none⟩) 1 1) rfl rfl rfl (r_cut3e (a := i) (b := (i + 1)) (m := N) rfl rfl rfl rfl rfl rfl rfl rfl hj rfl (by omega) (by rw [List.length_map, hl]; omega) (by omega) (by omega)) ?_
  refine OA.nil ?_
  intro _
  refine RA.seq hd ?_
  refine RA.seq hd ?_
  refine RA.region env_ok ?_
  refine OA.p (some 14) (.int .i64 ((i : Nat) : Int)) rfl rfl rfl rfl ?_
  refine OA.p (some 15) (.int .i64 (((i + 1) : Nat) : Int)) rfl rfl rfl rfl ?_
  have hc2 : ¬ (((i : Nat) : Int) = (((i + 1) : Nat) : Int)) := fun hdd => by exfalso; omega
  refine OA.p (some 16) (.bool false) rfl rfl rfl (Eq.trans (r_bin rfl rfl rfl (b_eql rfl)) (dF hc2)) ?_
  refine OA.nil ?_
  intro _
  refine RA.condF rfl ?_
  refine RA.skip env_ok ?_
  intro _
  refine RA.seq hd ?_
  refine RA.region env_ok ?_
  refine OA.p (some 18) (.slice (some ⟨j, 0, none⟩) N 0) rfl rfl rfl rfl ?_
  refine OA.p (some 19) (.int .i64 ((N : Nat) : Int)) rfl rfl rfl rfl ?_
  refine OA.p (some 7) (.int .i64 ((N : Nat) : Int)) rfl rfl rfl rfl ?_
  refine OA.nil ?_
  intro _
  refine RA.seq hd ?_
  refine RA.par (md := [some [], some [], some [j], some [], some [], some [j], none, some []]) env_ok (hd.up (by omega)) (by kernel_rfl) ?_
  refine PQ.pure (dst := (some 20)) (v := (.slice (some ⟨j, 0, none⟩) N 0)) rfl rfl rfl noStore (none_ok _ _) rfl ?_
  refine PQ.pure (dst := (some 21)) (v := (.int .i64 ((i : Nat) : Int))) rfl rfl rfl noStore (none_ok _ _) rfl ?_
  refine PQ.pure (dst := (some 22)) (v := (.slice (some ⟨j, 0, none⟩) i 0)) rfl rfl rfl (app [(j, some (oMsg l))] noStore) (seen_one (V := []) (D := []) (by kernel_rfl) hj) (r_cutG (a := 0) (b := i) rfl rfl (fun _ => rfl) (fun _ => rfl) rfl rfl rfl rfl (bound_int (by omega)) get_here rfl (by omega) (by rw [List.length_map, hl]; omega) (by omega) (by omega)) ?_
  refine PQ.pure (dst := (some 23)) (v := (.slice (some ⟨j, 0, none⟩) N 0)) rfl rfl rfl noStore (none_ok _ _) rfl ?_
  refine PQ.pure (dst := (some 24)) (v := (.int .i64 (((i + 1) : Nat) : Int))) rfl rfl rfl noStore (none_ok _ _) rfl ?_
  refine PQ.pure (dst := (some 25)) (v := (.slice (some ⟨j, (i + 1), none⟩) (N - (i + 1)) 0)) rfl rfl rfl (app [(j, some (oMsg l))] noStore) (seen_one (V := []) (D := []) (by kernel_rfl) hj) (r_cutG (a := (i + 1)) (b := N) rfl rfl (fun _ => rfl) (fun _ => rfl) rfl rfl rfl (bound_int (by omega)) rfl get_here rfl (by omega) (by rw [List.length_map, hl]; omega) (by omega) (by omega)) ?_
  refine PQ.pure (dst := (some 26)) (v := (.slice (some ⟨j, 0, none⟩) i 0)) rfl rfl rfl _ (seen_any (V := []) (D := []) (by kernel_rfl)) (r_appendZ rfl rfl rfl rfl (.inl ⟨_, _, _, rfl, by decide⟩) rfl rfl rfl rfl rfl (by decide) (by omega)) ?_
  refine PQ.pure (dst := (some 0)) (v := (.slice (some ⟨j, 0, none⟩) i 0)) rfl rfl rfl noStore (none_ok _ _) rfl ?_
  refine PQ.done (d := []) (by kernel_rfl) ?_
  intro _
  refine RA.seq hd ?_
  refine RA.region env_ok ?_
  refine OA.p (some 27) (.slice (some ⟨j, 0, none⟩) i 0) rfl rfl rfl rfl ?_
  refine OA.p (some 28) (.slice (some ⟨j, 0, none⟩) i 0) rfl rfl rfl rfl ?_
  refine OA.p (some 29) (.int .i64 ((i : Nat) : Int)) rfl rfl rfl rfl ?_
  refine OA.p (some 30) (.int .i64 ((N : Nat) : Int)) rfl rfl rfl rfl ?_
  refine OA.p (some 31) (.slice (some ⟨j, i, none⟩) 1 0) rfl rfl rfl (r_cutG (a := i) (b := N) rfl rfl (fun _ => rfl) (fun _ => rfl) rfl rfl rfl (bound_int (by omega)) (bound_int (by omega)) hj rfl (by omega) (by rw [List.length_map, hl]; omega) (by omega) (by omega)) ?_
  refine OA.op1 (dst := none) (v := (.tuple #[])) (n1 := n) (w := (j, some (oMsg (l.take i ++ List.replicate 1 dMsg ++ l.drop (i + 1))))) rfl rfl rfl (r_clearR (c := cMsg) (z := dMsg) (l' := (l.take i ++ List.replicate 1 dMsg ++ l.drop (i + 1))) rfl rfl rfl rfl rfl rfl rfl rfl rfl hj (by omega) (by rw [hl]; omega) rfl) (by omega) ?_
  refine OA.nil ?_
  intro _
  refine RA.rebase [(0, (.slice (some ⟨j, 0, none⟩) i 0)), (1, (.int .i64 ((i : Nat) : Int))), (2, (.int .i64 (((i + 1) : Nat) : Int))), (6, (.slice none 0 0)), (7, (.int .i64 ((N : Nat) : Int))), (16, (.bool false))] ⟨rfl, rfl, rfl, rfl, rfl, rfl, trivial⟩ (fun τr1 => ?_)
  refine RA.seq hd ?_
  refine RA.region env_ok ?_
  refine OA.p (some 32) (.slice (some ⟨j, 0, none⟩) i 0) rfl rfl rfl rfl ?_
  refine OA.p (some 6) (.slice (some ⟨j, 0, none⟩) i 0) rfl rfl rfl rfl ?_
  refine OA.nil ?_
  intro _
  refine RA.ret env_ok ?_
  refine ⟨.inr rfl, [(.slice (some ⟨j, 0, none⟩) i 0)], (resL_cons rfl resL_nil), [(j, some (oMsg (l.take i ++ List.replicate 1 dMsg ++ l.drop (i + 1))))], (Less.refl _ _ _), ⟨(l.take i ++ List.replicate 1 dMsg ++ l.drop (i + 1)), congrArg (fun z => Value.slice (some ⟨j, 0, none⟩) z 0) (by omega), del_last hl (by omega), rfl⟩⟩
 ·
  refine OA.op (dst := (some 13)) (v := (.slice (some ⟨n, 0, none⟩) 1 0)) (n1 := (n + 1)) (d1 := []) (D' := []) rfl rfl rfl (r_cut3 (a := i) (b := (i + 1)) (m := N) rfl rfl rfl rfl rfl rfl rfl rfl (by omega) (by omega)) (by omega) rfl ?_
  refine OA.nil ?_
  intro _
  refine RA.seq hd ?_
  refine RA.seq hd ?_
  refine RA.region env_ok ?_
  refine OA.p (some 14) (.int .i64 ((i : Nat) : Int)) rfl rfl rfl rfl ?_
  refine OA.p (some 15) (.int .i64 (((i + 1) : Nat) : Int)) rfl rfl rfl rfl ?_
  have hc3 : ¬ (((i : Nat) : Int) = (((i + 1) : Nat) : Int)) := fun hdd => by exfalso; omega
  refine OA.p (some 16) (.bool false) rfl rfl rfl (Eq.trans (r_bin rfl rfl rfl (b_eql rfl)) (dF hc3)) ?_
  refine OA.nil ?_
  intro _
  refine RA.condF rfl ?_
  refine RA.skip env_ok ?_
  intro _
  refine RA.seq hd ?_
  refine RA.region env_ok ?_
  refine OA.p (some 18) (.slice (some ⟨j, 0, none⟩) N 0) rfl rfl rfl rfl ?_
  refine OA.p (some 19) (.int .i64 ((N : Nat) : Int)) rfl rfl rfl rfl ?_
  refine OA.p (some 7) (.int .i64 ((N : Nat) : Int)) rfl rfl rfl rfl ?_
  refine OA.nil ?_
  intro _
  refine RA.seq hd ?_
  refine RA.par (md := [some [], some [], some [j], some [], some [], some [j], none, some []]) env_ok (hd.up (by omega)) (by kernel_rfl) ?_
  refine PQ.pure (dst := (some 20)) (v := (.slice (some ⟨j, 0, none⟩) N 0)) rfl rfl rfl noStore (none_ok _ _) rfl ?_
  refine PQ.pure (dst := (some 21)) (v := (.int .i64 ((i : Nat) : Int))) rfl rfl rfl noStore (none_ok _ _) rfl ?_
  refine PQ.pure (dst := (some 22)) (v := (.slice (some ⟨j, 0, none⟩) i 0)) rfl rfl rfl (app [(j, some (oMsg l))] noStore) (seen_one (V := []) (D := []) (by kernel_rfl) hj) (r_cutG (a := 0) (b := i) rfl rfl (fun _ => rfl) (fun _ => rfl) rfl rfl rfl rfl (bound_int (by omega)) get_here rfl (by omega) (by rw [List.length_map, hl]; omega) (by omega) (by omega)) ?_
  refine PQ.pure (dst := (some 23)) (v := (.slice (some ⟨j, 0, none⟩) N 0)) rfl rfl rfl noStore (none_ok _ _) rfl ?_
  refine PQ.pure (dst := (some 24)) (v := (.int .i64 (((i + 1) : Nat) : Int))) rfl rfl rfl noStore (none_ok _ _) rfl ?_
  refine PQ.pure (dst := (some 25)) (v := (.slice (some ⟨j, (i + 1), none⟩) (N - (i + 1)) 0)) rfl rfl rfl (app [(j, some (oMsg l))] noStore) (seen_one (V := []) (D := []) (by kernel_rfl) hj) (r_cutG (a := (i + 1)) (b := N) rfl rfl (fun _ => rfl) (fun _ => rfl) rfl rfl rfl (bound_int (by omega)) rfl get_here rfl (by omega) (by rw [List.length_map, hl]; omega) (by omega) (by omega)) ?_
  refine PQ.op (dst := (some 26)) (v := (.slice (some ⟨j, 0, none⟩) (N - 1) 0)) (n1 := (n + 1)) (d1 := [(j, some (oMsg (l.take i ++ (l.drop (i + 1)).take (N - (i + 1)) ++ l.drop (i + (N - (i + 1))))))]) rfl rfl rfl _ (seen_any (V := []) (D := []) (by kernel_rfl)) (r_appendIn (c := cMsg) (l' := (l.take i ++ (l.drop (i + 1)).take (N - (i + 1)) ++ l.drop (i + (N - (i + 1))))) rfl rfl rfl rfl rfl rfl rfl rfl rfl rfl (by decide) hj (by omega) (by rw [hl]; omega) (by rw [hl]; omega) rfl (by omega) (of_decide_eq_true (by kernel_rfl)) (by omega)) (by omega) (kp1 (wr_tight (by kernel_rfl) (by omega))) ?_
  refine PQ.pure (dst := (some 0)) (v := (.slice (some ⟨j, 0, none⟩) (N - 1) 0)) rfl rfl rfl noStore (none_ok _ _) rfl ?_
  refine PQ.done (d := [(j, some (oMsg (l.take i ++ (l.drop (i + 1)).take (N - (i + 1)) ++ l.drop (i + (N - (i + 1))))))]) (by kernel_rfl) ?_
  intro _
  refine RA.seq hd ?_
  refine RA.region env_ok ?_
  refine OA.p (some 27) (.slice (some ⟨j, 0, none⟩) (N - 1) 0) rfl rfl rfl rfl ?_
  refine OA.p (some 28) (.slice (some ⟨j, 0, none⟩) (N - 1) 0) rfl rfl rfl rfl ?_
  refine OA.p (some 29) (.int .i64 (((N - 1) : Nat) : Int)) rfl rfl rfl rfl ?_
  refine OA.p (some 30) (.int .i64 ((N : Nat) : Int)) rfl rfl rfl rfl ?_
  refine OA.p (some 31) (.slice (some ⟨j, (N - 1), none⟩) 1 0) rfl rfl rfl (r_cutG (a := (N - 1)) (b := N) rfl rfl (fun _ => rfl) (fun _ => rfl) rfl rfl rfl (bound_int (by omega)) (bound_int (by omega)) get_here rfl (by omega) (by rw [List.length_map, show (l.take i ++ (l.drop (i + 1)).take (N - (i + 1)) ++ l.drop (i + (N - (i + 1)))).length = N from by simp only [List.length_append, List.length_take, List.length_drop, hl]; omega]; omega) (by omega) (by omega)) ?_
  refine OA.op1 (dst := none) (v := (.tuple #[])) (n1 := (n + 1)) (w := (j, some (oMsg ((l.take i ++ (l.drop (i + 1)).take (N - (i + 1)) ++ l.drop (i + (N - (i + 1)))).take (N - 1) ++ List.replicate 1 dMsg ++ (l.take i ++ (l.drop (i + 1)).take (N - (i + 1)) ++ l.drop (i + (N - (i + 1)))).drop ((N - 1) + 1))))) rfl rfl rfl (r_clearR (c := cMsg) (z := dMsg) (l' := ((l.take i ++ (l.drop (i + 1)).take (N - (i + 1)) ++ l.drop (i + (N - (i + 1)))).take (N - 1) ++ List.replicate 1 dMsg ++ (l.take i ++ (l.drop (i + 1)).take (N - (i + 1)) ++ l.drop (i + (N - (i + 1)))).drop ((N - 1) + 1))) rfl rfl rfl rfl rfl rfl rfl rfl rfl get_here (by omega) (by have hlo := (show (l.take i ++ (l.drop (i + 1)).take (N - (i + 1)) ++ l.drop (i + (N - (i + 1)))).length = N from by simp only [List.length_append, List.length_take, List.length_drop, hl]; omega); omega) rfl) (by omega) ?_
  refine OA.nil ?_
  intro _
  refine RA.rebase [(0, (.slice (some ⟨j, 0, none⟩) (N - 1) 0)), (1, (.int .i64 ((i : Nat) : Int))), (2, (.int .i64 (((i + 1) : Nat) : Int))), (6, (.slice none 0 0)), (7, (.int .i64 ((N : Nat) : Int))), (16, (.bool false))] ⟨rfl, rfl, rfl, rfl, rfl, rfl, trivial⟩ (fun τr2 => ?_)
  refine RA.seq hd ?_
  refine RA.region env_ok ?_
  refine OA.p (some 32) (.slice (some ⟨j, 0, none⟩) (N - 1) 0) rfl rfl rfl rfl ?_
  refine OA.p (some 6) (.slice (some ⟨j, 0, none⟩) (N - 1) 0) rfl rfl rfl rfl ?_
  refine OA.nil ?_
  intro _
  refine RA.ret env_ok ?_
  refine ⟨.inr rfl, [(.slice (some ⟨j, 0, none⟩) (N - 1) 0)], (resL_cons rfl resL_nil), [(j, some (oMsg ((l.take i ++ (l.drop (i + 1)).take (N - (i + 1)) ++ l.drop (i + (N - (i + 1)))).take (N - 1) ++ List.replicate 1 dMsg ++ (l.take i ++ (l.drop (i + 1)).take (N - (i + 1)) ++ l.drop (i + (N - (i + 1)))).drop ((N - 1) + 1))))], (Less.of (fac (mm (fun _ => get_here) (fun _ => get_here)) fan) (gone_of (by simp only [goneP, memP, List.cons_append, List.nil_append, true_or, or_true, true_and, and_true, or_false] <;> omega))), ⟨((l.take i ++ (l.drop (i + 1)).take (N - (i + 1)) ++ l.drop (i + (N - (i + 1)))).take (N - 1) ++ List.replicate 1 dMsg ++ (l.take i ++ (l.drop (i + 1)).take (N - (i + 1)) ++ l.drop (i + (N - (i + 1)))).drop ((N - 1) + 1)), congrArg (fun z => Value.slice (some ⟨j, 0, none⟩) z 0) (by omega), del_mid hl (by omega) rfl rfl, rfl⟩⟩
theorem mDel_ {n : Nat} {σ : Store} (hd : Dom n σ) (j N i : Nat) (l : List Msg) (hl : l.length = N) (hi : i < N) (hN : N ≤ 1000000) (hj : σ j = some (oMsg l)) : CQ Try.prog noDen 80 [(.slice (some ⟨j, 0, none⟩) N 0), (.int .i64 ((i : Nat) : Int)), (.int .i64 (((i + 1) : Nat) : Int))] n σ (fun v n' d => v = .slice (some ⟨j, 0, none⟩) (N - 1) 0 ∧ d = [(j, some (oMsg (l.eraseIdx i)))]) := by
  refine CQ.less (CQ.shr (mDel_0 hd j N i l hl hi hN hj) (R := fun v n' d => v = .slice (some ⟨j, 0, none⟩) (N - 1) 0 ∧ ∃ o, d = [(j, some (oMsg (l.eraseIdx i))), (j, some o)]) ?_) ?_
  · rintro v n' d ⟨LL, rfl, h2, rfl⟩
    refine ⟨j, _, N - 1, get_here, rfl, (oMsg LL), ?_⟩
    simp only [shr, ← List.map_take, h2]
  · rintro v n' d ⟨rfl, o, rfl⟩
    exact ⟨_, Less.of (fac (mm (fun _ => get_here) (fun _ => get_here)) fan) (gone_of (by simp only [goneP, memP, true_or, or_true, true_and, and_true])), rfl, rfl⟩
theorem mDel {n : Nat} {σ : Store} (hd : Dom n σ) (j N i : Nat) (l : List Msg) (hl : l.length = N) (hi : i < N) (hN : N ≤ 1000000) (hj : σ j = some (oMsg l)) : CQ Try.prog noDen 80 [(.slice (some ⟨j, 0, none⟩) N 2), (.int .i64 ((i : Nat) : Int)), (.int .i64 (((i + 1) : Nat) : Int))] n σ (fun v n' d => v = .slice (some ⟨j, 0, none⟩) (N - 1) 2 ∧ d = [(j, some (oMsg (l.eraseIdx i)))]) := by
  refine CQ.val (CQ.less_args (VLes.cons (vle_has (by omega)) (VLes.refl _)) (mDel_ hd j N i l hl hi hN hj)) ?_
  rintro v n' d ⟨rfl, rfl⟩
  exact ⟨_, vle_row _ _ _, rfl, rfl⟩
end Go.Proofs.Ytnjknabighmedaa.Vt
