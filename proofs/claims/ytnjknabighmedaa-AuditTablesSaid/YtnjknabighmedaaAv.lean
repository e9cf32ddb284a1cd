/- Av: walks through functions of the program, by the calculus; written by a program of this workplace. -/
import Derived.Test.YtnjknabighmedaaAu
namespace Go.Proofs.Ytnjknabighmedaa.Vt
open Go Go.Proofs Go.Proofs.YtnjknabighmedaaV
set_option maxRecDepth 100000
set_option linter.unusedVariables false
set_option linter.unusedSimpArgs false
theorem takeLen {l : List Ent} {i : Nat} (h : i ≤ l.length) : ((l.take i).map near).length = i := by rw [List.length_map, List.length_take]; omega
theorem aSuf {n : Nat} {σ : Store} (hd : Dom n σ) (l : List Ent) (N : Nat) (hl : l.length = N) (hN : N ≤ 12) (j : Nat) (hj : n ≤ j) (most : Int) (m0 : Nat) (hm0 : j + 1 ≤ m0) (τ0 : Tm) : RA Try.prog env n σ Try.f3.ntmps (right 3 (Try.f3.body.getD .skip)) (upds τ0 [(1, (.int .i64 most)), (5, (.slice (some ⟨j, 0, none⟩) N 0)), (6, (.int .i64 0))]) m0 [(j, some ⟨(l.map ecell), 7, 26, true⟩)] (fun x τ' n' D => (x = .normal ∨ x = .ret) ∧ ∃ vs, resL env τ' (app D σ) Try.f3.results.toList = some vs ∧ one vs = (.bool true) ∧ ∀ i ∈ keys D, n ≤ i ∧ i < n') := by
  refine RA.seq hd ?_
  refine RA.seq hd ?_
  refine RA.region env_ok ?_
  refine OA.pure (dst := (some 8)) (v := (.int .i64 0)) rfl rfl rfl rfl ?_
  refine OA.nil ?_
  intro _
  refine RA.block ?_
  refine RA.loop hd (fun kk_ τ n' D => ∃ i : Nat,  kk_ = (N - i) ∧ m0 ≤ n' ∧ Has τ [(1, (.int .i64 most)), (5, (.slice (some ⟨j, 0, none⟩) N 0)), (6, (.int .i64 (kw (outr l i) false))), (8, (.int .i64 ((i : Nat) : Int)))] ∧ D = [(j, some ⟨(l.map ecell), 7, 26, true⟩)] ∧ (∀ i ∈ keys D, i < n') ∧ i ≤ N) ((N - 0)) ⟨0, rfl, by omega, ⟨rfl, rfl, rfl, rfl, trivial⟩, rfl, (by intro i hi; simp only [keys, List.cons_append, List.nil_append, List.map_cons, List.map_nil, List.mem_cons, List.not_mem_nil, or_false, false_or] at hi; omega), by omega⟩ ?_
  rintro kn1 τ1 n1 _ ⟨i, rfl, hn1, hHn1, rfl, hKn1, hIn1⟩
  rw [Has.eq hHn1]
  have hKn1_0 : j < n1 := hKn1 _ (by simp only [keys, List.map_cons, List.map_nil, List.mem_cons, true_or, or_true])
  simp only [keys, List.map, List.forall_mem_cons, List.mem_cons, List.not_mem_nil, false_imp_iff, implies_true, and_true] at hKn1
  refine RA.seq hd ?_
  refine RA.seq hd ?_
  refine RA.region env_ok ?_
  refine OA.pure (dst := (some 31)) (v := (.int .i64 ((i : Nat) : Int))) rfl rfl rfl rfl ?_
  refine OA.pure (dst := (some 32)) (v := (.slice (some ⟨j, 0, none⟩) N 0)) rfl rfl rfl rfl ?_
  refine OA.pure (dst := (some 33)) (v := (.int .i64 ((N : Nat) : Int))) rfl rfl rfl rfl ?_
  by_cases hc1 : ((i : Nat) : Int) < ((N : Nat) : Int)
  ·
    refine OA.pure (dst := (some 34)) (v := (.bool true)) rfl rfl rfl (Eq.trans (r_bin rfl rfl rfl (b_lss rfl)) (by first | (rw [decide_eq_true hc1]; done) | (rw [decide_eq_true hc1]; rfl))) ?_
    refine OA.nil ?_
    intro _
    refine RA.cond (t := true) rfl (fun hc => ?_) (fun hc => ?_)
    ·
      refine RA.skip env_ok ?_
      intro _
      refine RA.seq hd ?_
      refine RA.block ?_
      refine RA.seq hd ?_
      refine RA.region env_ok ?_
      refine OA.pure (dst := (some 9)) (v := (.int .i64 0)) rfl rfl rfl rfl ?_
      refine OA.nil ?_
      intro _
      refine RA.block ?_
      refine RA.loop hd (fun kk_ τ n' D => ∃ jj : Nat,  kk_ = (i - jj) ∧ n1 ≤ n' ∧ Has τ [(1, (.int .i64 most)), (5, (.slice (some ⟨j, 0, none⟩) N 0)), (6, (.int .i64 (kw (outr l i || innr l i jj) false))), (8, (.int .i64 ((i : Nat) : Int))), (9, (.int .i64 ((jj : Nat) : Int)))] ∧ D = [(j, some ⟨(l.map ecell), 7, 26, true⟩)] ∧ (∀ i ∈ keys D, i < n') ∧ jj ≤ i) ((i - 0)) ⟨0, rfl, by omega, ⟨rfl, rfl, (by show Value.int _ _ = Value.int _ _; simp [innr]), rfl, rfl, trivial⟩, rfl, (by intro i hi; simp only [keys, List.cons_append, List.nil_append, List.map_cons, List.map_nil, List.mem_cons, List.not_mem_nil, or_false, false_or] at hi; omega), by omega⟩ ?_
      rintro kn2 τ2 n2 _ ⟨jj, rfl, hn2, hHn2, rfl, hKn2, hIn2⟩
      rw [Has.eq hHn2]
      have hKn2_0 : j < n2 := hKn2 _ (by simp only [keys, List.map_cons, List.map_nil, List.mem_cons, true_or, or_true])
      simp only [keys, List.map, List.forall_mem_cons, List.mem_cons, List.not_mem_nil, false_imp_iff, implies_true, and_true] at hKn2
      refine RA.seq hd ?_
      refine RA.seq hd ?_
      refine RA.region env_ok ?_
      refine OA.pure (dst := (some 37)) (v := (.int .i64 ((jj : Nat) : Int))) rfl rfl rfl rfl ?_
      refine OA.pure (dst := (some 38)) (v := (.int .i64 ((i : Nat) : Int))) rfl rfl rfl rfl ?_
      by_cases hc2 : ((jj : Nat) : Int) < ((i : Nat) : Int)
      ·
        refine OA.pure (dst := (some 39)) (v := (.bool true)) rfl rfl rfl (Eq.trans (r_bin rfl rfl rfl (b_lss rfl)) (by first | (rw [decide_eq_true hc2]; done) | (rw [decide_eq_true hc2]; rfl))) ?_
        refine OA.nil ?_
        intro _
        refine RA.cond (t := true) rfl (fun hc => ?_) (fun hc => ?_)
        ·
          refine RA.skip env_ok ?_
          intro _
          refine RA.seq hd ?_
          refine RA.block ?_
          refine RA.seq hd ?_
          refine RA.par (md := [some [], some [], some [j], some [j], some [], some [], some [j], some [j], some [], some [], none, none]) env_ok (hd.of (by omega) (by intro i hi; simp only [keys, List.cons_append, List.nil_append, List.map_cons, List.map_nil, List.mem_cons, List.not_mem_nil, or_false, false_or] at hi; omega)) (by kernel_rfl) ?_
          refine PQ.pure (dst := (some 42)) (v := (.slice (some ⟨j, 0, none⟩) N 0)) rfl rfl rfl noStore (none_ok _ _) rfl ?_
          refine PQ.pure (dst := (some 43)) (v := (.int .i64 ((i : Nat) : Int))) rfl rfl rfl noStore (none_ok _ _) rfl ?_
          refine PQ.pure (dst := (some 44)) (v := (.pointer (some ⟨j, i, some 0⟩))) rfl rfl rfl (app [(j, some ⟨(l.map ecell), 7, 26, true⟩)] noStore) (seen_one (V := []) (D := [(j, some ⟨(l.map ecell), 7, 26, true⟩)]) (by kernel_rfl) get_here) (r_iaS (l := i) rfl rfl rfl rfl rfl rfl (by omega) (by omega) get_here rfl (by omega)) ?_
          refine PQ.pure (dst := (some 45)) (v := (.agg ⟨[(W (l.getD i e0).inner), (.int .i64 (l.getD i e0).port), (W (l.getD i e0).peer), (.int .i64 (l.getD i e0).pport), (W (l.getD i e0).inn), (W (l.getD i e0).out), (.int .i64 (l.getD i e0).seen)]⟩)) rfl rfl rfl (app [(j, some ⟨(l.map ecell), 7, 26, true⟩)] noStore) (seen_one (V := []) (D := [(j, some ⟨(l.map ecell), 7, 26, true⟩)]) (by kernel_rfl) get_here) (r_loadA (e := ecell (l.getD i e0)) rfl rfl rfl rfl get_here (rec_get (by rw [hl]; omega)) rfl rfl) ?_
          refine PQ.pure (dst := (some 46)) (v := (.slice (some ⟨j, 0, none⟩) N 0)) rfl rfl rfl noStore (none_ok _ _) rfl ?_
          refine PQ.pure (dst := (some 47)) (v := (.int .i64 ((jj : Nat) : Int))) rfl rfl rfl noStore (none_ok _ _) rfl ?_
          refine PQ.pure (dst := (some 48)) (v := (.pointer (some ⟨j, jj, some 0⟩))) rfl rfl rfl (app [(j, some ⟨(l.map ecell), 7, 26, true⟩)] noStore) (seen_one (V := []) (D := [(j, some ⟨(l.map ecell), 7, 26, true⟩)]) (by kernel_rfl) get_here) (r_iaS (l := jj) rfl rfl rfl rfl rfl rfl (by omega) (by omega) get_here rfl (by omega)) ?_
          refine PQ.pure (dst := (some 49)) (v := (.agg ⟨[(W (l.getD jj e0).inner), (.int .i64 (l.getD jj e0).port), (W (l.getD jj e0).peer), (.int .i64 (l.getD jj e0).pport), (W (l.getD jj e0).inn), (W (l.getD jj e0).out), (.int .i64 (l.getD jj e0).seen)]⟩)) rfl rfl rfl (app [(j, some ⟨(l.map ecell), 7, 26, true⟩)] noStore) (seen_one (V := []) (D := [(j, some ⟨(l.map ecell), 7, 26, true⟩)]) (by kernel_rfl) get_here) (r_loadA (e := ecell (l.getD jj e0)) rfl rfl rfl rfl get_here (rec_get (by rw [hl]; omega)) rfl rfl) ?_
          refine PQ.op (dst := (some 10)) (v := (.pointer (some ⟨n2, 0, some 0⟩))) (n1 := (n2 + 1)) (d1 := [(n2, some ⟨[[(.int .u32 0), (.int .i64 0), (.int .u32 0), (.int .i64 0), (.int .u32 0), (.int .u32 0), (.int .i64 0)]], 7, 26, true⟩)]) rfl rfl rfl noStore (none_ok _ _) rfl (by omega) (fun x hx => by first | (simp only [keys, List.cons_append, List.nil_append, List.map_cons, List.map_nil, List.mem_cons, List.not_mem_nil, or_false, false_or] at hx; exact wr_new (by omega) (by omega)) | (simp only [keys, List.cons_append, List.nil_append, List.map_cons, List.map_nil, List.mem_cons, List.not_mem_nil, or_false, false_or] at hx; exact wr_old [0, 1, 2, 3, 4, 5, 6, 7, 9] (by kernel_rfl) (by omega) (by omega) (by intro i hi; simp only [List.mem_cons, List.not_mem_nil, or_false] at hi; rcases hi with rfl | rfl | rfl | rfl | rfl | rfl | rfl | rfl | rfl <;> exact ⟨_, rfl, by simp only [List.mem_cons, List.not_mem_nil, or_false, not_false_eq_true]; try omega⟩))) ?_
          refine PQ.op (dst := (some 11)) (v := (.pointer (some ⟨(n2 + 1), 0, some 0⟩))) (n1 := (n2 + 2)) (d1 := [((n2 + 1), some ⟨[[(.int .u32 0), (.int .i64 0), (.int .u32 0), (.int .i64 0), (.int .u32 0), (.int .u32 0), (.int .i64 0)]], 7, 26, true⟩)]) rfl rfl rfl noStore (none_ok _ _) rfl (by omega) (fun x hx => by first | (simp only [keys, List.cons_append, List.nil_append, List.map_cons, List.map_nil, List.mem_cons, List.not_mem_nil, or_false, false_or] at hx; exact wr_new (by omega) (by omega)) | (simp only [keys, List.cons_append, List.nil_append, List.map_cons, List.map_nil, List.mem_cons, List.not_mem_nil, or_false, false_or] at hx; exact wr_old [0, 1, 2, 3, 4, 5, 6, 7, 8] (by kernel_rfl) (by omega) (by omega) (by intro i hi; simp only [List.mem_cons, List.not_mem_nil, or_false] at hi; rcases hi with rfl | rfl | rfl | rfl | rfl | rfl | rfl | rfl | rfl <;> exact ⟨_, rfl, by simp only [List.mem_cons, List.not_mem_nil, or_false, not_false_eq_true]; try omega⟩))) ?_
          refine PQ.op (dst := none) (v := (.tuple #[])) (n1 := (n2 + 2)) (d1 := [(n2, some ⟨[[(W (l.getD i e0).inner), (.int .i64 (l.getD i e0).port), (W (l.getD i e0).peer), (.int .i64 (l.getD i e0).pport), (W (l.getD i e0).inn), (W (l.getD i e0).out), (.int .i64 (l.getD i e0).seen)]], 7, 26, true⟩)]) rfl rfl rfl (app [((n2 + 1), some ⟨[[(.int .u32 0), (.int .i64 0), (.int .u32 0), (.int .i64 0), (.int .u32 0), (.int .u32 0), (.int .i64 0)]], 7, 26, true⟩), (n2, some ⟨[[(.int .u32 0), (.int .i64 0), (.int .u32 0), (.int .i64 0), (.int .u32 0), (.int .u32 0), (.int .i64 0)]], 7, 26, true⟩), (j, some ⟨(l.map ecell), 7, 26, true⟩)] σ) (seen_any (V := [((n2 + 1), some ⟨[[(.int .u32 0), (.int .i64 0), (.int .u32 0), (.int .i64 0), (.int .u32 0), (.int .u32 0), (.int .i64 0)]], 7, 26, true⟩), (n2, some ⟨[[(.int .u32 0), (.int .i64 0), (.int .u32 0), (.int .i64 0), (.int .u32 0), (.int .u32 0), (.int .i64 0)]], 7, 26, true⟩)]) (D := [(j, some ⟨(l.map ecell), 7, 26, true⟩)]) (by kernel_rfl)) (r_store rfl rfl rfl rfl rfl rfl rfl (get_there (by omega) get_here) rfl rfl (Nat.le_of_ble_eq_true rfl) rfl) (by omega) (fun x hx => by first | (simp only [keys, List.cons_append, List.nil_append, List.map_cons, List.map_nil, List.mem_cons, List.not_mem_nil, or_false, false_or] at hx; exact wr_new (by omega) (by omega)) | (simp only [keys, List.cons_append, List.nil_append, List.map_cons, List.map_nil, List.mem_cons, List.not_mem_nil, or_false, false_or] at hx; exact wr_late [4, 5, 6, 7] (by kernel_rfl) (by kernel_rfl) (by omega) 8 (by kernel_rfl) (by subst hx; simp [keys]) (by intro i hi; simp only [List.mem_cons, List.not_mem_nil, or_false] at hi; rcases hi with rfl | rfl | rfl | rfl <;> exact ⟨_, rfl, by simp only [List.mem_cons, List.not_mem_nil, or_false, not_false_eq_true]; try omega⟩)) | (simp only [keys, List.cons_append, List.nil_append, List.map_cons, List.map_nil, List.mem_cons, List.not_mem_nil, or_false, false_or] at hx; exact wr_old [4, 5, 6, 7] (by kernel_rfl) (by omega) (by omega) (by intro i hi; simp only [List.mem_cons, List.not_mem_nil, or_false] at hi; rcases hi with rfl | rfl | rfl | rfl <;> exact ⟨_, rfl, by simp only [List.mem_cons, List.not_mem_nil, or_false, not_false_eq_true]; try omega⟩))) ?_
          refine PQ.op (dst := none) (v := (.tuple #[])) (n1 := (n2 + 2)) (d1 := [((n2 + 1), some ⟨[[(W (l.getD jj e0).inner), (.int .i64 (l.getD jj e0).port), (W (l.getD jj e0).peer), (.int .i64 (l.getD jj e0).pport), (W (l.getD jj e0).inn), (W (l.getD jj e0).out), (.int .i64 (l.getD jj e0).seen)]], 7, 26, true⟩)]) rfl rfl rfl (app [(n2, some ⟨[[(W (l.getD i e0).inner), (.int .i64 (l.getD i e0).port), (W (l.getD i e0).peer), (.int .i64 (l.getD i e0).pport), (W (l.getD i e0).inn), (W (l.getD i e0).out), (.int .i64 (l.getD i e0).seen)]], 7, 26, true⟩), ((n2 + 1), some ⟨[[(.int .u32 0), (.int .i64 0), (.int .u32 0), (.int .i64 0), (.int .u32 0), (.int .u32 0), (.int .i64 0)]], 7, 26, true⟩), (n2, some ⟨[[(.int .u32 0), (.int .i64 0), (.int .u32 0), (.int .i64 0), (.int .u32 0), (.int .u32 0), (.int .i64 0)]], 7, 26, true⟩), (j, some ⟨(l.map ecell), 7, 26, true⟩)] σ) (seen_any (V := [(n2, some ⟨[[(W (l.getD i e0).inner), (.int .i64 (l.getD i e0).port), (W (l.getD i e0).peer), (.int .i64 (l.getD i e0).pport), (W (l.getD i e0).inn), (W (l.getD i e0).out), (.int .i64 (l.getD i e0).seen)]], 7, 26, true⟩), ((n2 + 1), some ⟨[[(.int .u32 0), (.int .i64 0), (.int .u32 0), (.int .i64 0), (.int .u32 0), (.int .u32 0), (.int .i64 0)]], 7, 26, true⟩), (n2, some ⟨[[(.int .u32 0), (.int .i64 0), (.int .u32 0), (.int .i64 0), (.int .u32 0), (.int .u32 0), (.int .i64 0)]], 7, 26, true⟩)]) (D := [(j, some ⟨(l.map ecell), 7, 26, true⟩)]) (by kernel_rfl)) (r_store rfl rfl rfl rfl rfl rfl rfl (get_there (by omega) get_here) rfl rfl (Nat.le_of_ble_eq_true rfl) rfl) (by omega) (fun x hx => by first | (simp only [keys, List.cons_append, List.nil_append, List.map_cons, List.map_nil, List.mem_cons, List.not_mem_nil, or_false, false_or] at hx; exact wr_new (by omega) (by omega)) | (exact wr_tight (by kernel_rfl) (by simp only [keys, List.cons_append, List.nil_append, List.map_cons, List.map_nil, List.mem_cons, List.not_mem_nil, or_false, false_or] at hx; omega))) ?_
          refine PQ.done (d := [((n2 + 1), some ⟨[[(W (l.getD jj e0).inner), (.int .i64 (l.getD jj e0).port), (W (l.getD jj e0).peer), (.int .i64 (l.getD jj e0).pport), (W (l.getD jj e0).inn), (W (l.getD jj e0).out), (.int .i64 (l.getD jj e0).seen)]], 7, 26, true⟩), (n2, some ⟨[[(W (l.getD i e0).inner), (.int .i64 (l.getD i e0).port), (W (l.getD i e0).peer), (.int .i64 (l.getD i e0).pport), (W (l.getD i e0).inn), (W (l.getD i e0).out), (.int .i64 (l.getD i e0).seen)]], 7, 26, true⟩), ((n2 + 1), some ⟨[[(.int .u32 0), (.int .i64 0), (.int .u32 0), (.int .i64 0), (.int .u32 0), (.int .u32 0), (.int .i64 0)]], 7, 26, true⟩), (n2, some ⟨[[(.int .u32 0), (.int .i64 0), (.int .u32 0), (.int .i64 0), (.int .u32 0), (.int .u32 0), (.int .i64 0)]], 7, 26, true⟩)]) (by kernel_rfl) ?_
          intro _
          refine RA.seq hd ?_
          refine RA.region env_ok ?_
          refine OA.pure (dst := (some 50)) (v := (.pointer (some ⟨n2, 0, some 2⟩))) rfl rfl rfl rfl ?_
          refine OA.pure (dst := (some 51)) (v := (W (l.getD i e0).peer)) rfl rfl rfl (r_load1 rfl rfl rfl rfl rfl (get_there (by omega) get_here) rfl rfl) ?_
          refine OA.pure (dst := (some 52)) (v := (.pointer (some ⟨(n2 + 1), 0, some 2⟩))) rfl rfl rfl rfl ?_
          refine OA.pure (dst := (some 53)) (v := (W (l.getD jj e0).peer)) rfl rfl rfl (r_load1 rfl rfl rfl rfl rfl get_here rfl rfl) ?_
          by_cases hc3 : ((l.getD i e0).peer.toNat : Int) = ((l.getD jj e0).peer.toNat : Int)
          ·
            refine OA.pure (dst := (some 54)) (v := (.bool true)) rfl rfl rfl (Eq.trans (r_bin rfl rfl rfl (b_eql rfl)) (by first | (rw [decide_eq_true hc3]; done) | (rw [decide_eq_true hc3]; rfl))) ?_
            refine OA.pure (dst := (some 55)) (v := (.bool true)) rfl rfl rfl rfl ?_
            refine OA.pure (dst := (some 56)) (v := (.pointer (some ⟨n2, 0, some 3⟩))) rfl rfl rfl rfl ?_
            refine OA.pure (dst := (some 57)) (v := (.int .i64 (l.getD i e0).pport)) rfl rfl rfl (r_load1 rfl rfl rfl rfl rfl (get_there (by omega) get_here) rfl rfl) ?_
            refine OA.pure (dst := (some 58)) (v := (.pointer (some ⟨(n2 + 1), 0, some 3⟩))) rfl rfl rfl rfl ?_
            refine OA.pure (dst := (some 59)) (v := (.int .i64 (l.getD jj e0).pport)) rfl rfl rfl (r_load1 rfl rfl rfl rfl rfl get_here rfl rfl) ?_
            by_cases hc4 : (l.getD i e0).pport = (l.getD jj e0).pport
            ·
              refine OA.pure (dst := (some 60)) (v := (.bool true)) rfl rfl rfl (Eq.trans (r_bin rfl rfl rfl (b_eql rfl)) (by first | (rw [decide_eq_true hc4]; done) | (rw [decide_eq_true hc4]; rfl))) ?_
              refine OA.pure (dst := (some 61)) (v := (.bool true)) rfl rfl rfl rfl ?_
              refine OA.pure (dst := (some 62)) (v := (.bool true)) rfl rfl rfl rfl ?_
              refine OA.pure (dst := (some 63)) (v := (.pointer (some ⟨n2, 0, some 1⟩))) rfl rfl rfl rfl ?_
              refine OA.pure (dst := (some 64)) (v := (.int .i64 (l.getD i e0).port)) rfl rfl rfl (r_load1 rfl rfl rfl rfl rfl (get_there (by omega) get_here) rfl rfl) ?_
              refine OA.pure (dst := (some 65)) (v := (.pointer (some ⟨(n2 + 1), 0, some 1⟩))) rfl rfl rfl rfl ?_
              refine OA.pure (dst := (some 66)) (v := (.int .i64 (l.getD jj e0).port)) rfl rfl rfl (r_load1 rfl rfl rfl rfl rfl get_here rfl rfl) ?_
              by_cases hc5 : (l.getD i e0).port = (l.getD jj e0).port
              ·
                refine OA.pure (dst := (some 67)) (v := (.bool true)) rfl rfl rfl (Eq.trans (r_bin rfl rfl rfl (b_eql rfl)) (by first | (rw [decide_eq_true hc5]; done) | (rw [decide_eq_true hc5]; rfl))) ?_
                refine OA.pure (dst := (some 68)) (v := (.bool true)) rfl rfl rfl rfl ?_
                refine OA.pure (dst := (some 69)) (v := (.bool true)) rfl rfl rfl rfl ?_
                refine OA.pure (dst := (some 70)) (v := (.pointer (some ⟨n2, 0, some 4⟩))) rfl rfl rfl rfl ?_
                refine OA.pure (dst := (some 71)) (v := (W (l.getD i e0).inn)) rfl rfl rfl (r_load1 rfl rfl rfl rfl rfl (get_there (by omega) get_here) rfl rfl) ?_
                refine OA.pure (dst := (some 72)) (v := (.pointer (some ⟨(n2 + 1), 0, some 4⟩))) rfl rfl rfl rfl ?_
                refine OA.pure (dst := (some 73)) (v := (W (l.getD jj e0).inn)) rfl rfl rfl (r_load1 rfl rfl rfl rfl rfl get_here rfl rfl) ?_
                by_cases hc6 : ((l.getD i e0).inn.toNat : Int) = ((l.getD jj e0).inn.toNat : Int)
                ·
                  refine OA.pure (dst := (some 74)) (v := (.bool true)) rfl rfl rfl (Eq.trans (r_bin rfl rfl rfl (b_eql rfl)) (by first | (rw [decide_eq_true hc6]; done) | (rw [decide_eq_true hc6]; rfl))) ?_
                  refine OA.pure (dst := (some 75)) (v := (.bool true)) rfl rfl rfl rfl ?_
                  refine OA.nil ?_
                  intro _
                  refine RA.rebase [(1, (.int .i64 most)), (5, (.slice (some ⟨j, 0, none⟩) N 0)), (6, (.int .i64 (kw (outr l i || innr l i jj) false))), (8, (.int .i64 ((i : Nat) : Int))), (9, (.int .i64 ((jj : Nat) : Int))), (10, (.pointer (some ⟨n2, 0, some 0⟩))), (11, (.pointer (some ⟨(n2 + 1), 0, some 0⟩))), (39, (.bool true)), (75, (.bool true))] ⟨rfl, rfl, rfl, rfl, rfl, rfl, rfl, rfl, rfl, trivial⟩ (fun τr3 => ?_)
                  refine RA.cond (t := true) rfl (fun hc => ?_) (fun hc => ?_)
                  ·
                    refine RA.region env_ok ?_
                    refine OA.pure (dst := (some 76)) (v := (.int .i64 (kw (outr l i || innr l i jj) false))) rfl rfl rfl rfl ?_
                    refine OA.pure (dst := (some 77)) (v := (.int .i64 (kw true false))) rfl rfl rfl (r_bin rfl rfl rfl (b_kw4 (outr l i || innr l i jj) false)) ?_
                    refine OA.pure (dst := (some 6)) (v := (.int .i64 (kw true false))) rfl rfl rfl rfl ?_
                    refine OA.nil ?_
                    intro _
                    refine RA.region env_ok ?_
                    refine OA.pure (dst := (some 40)) (v := (.int .i64 ((jj : Nat) : Int))) rfl rfl rfl rfl ?_
                    refine OA.pure (dst := (some 41)) (v := (.int .i64 (((jj + 1) : Nat) : Int))) rfl rfl rfl (r_bin rfl rfl rfl (b_add (i64_eq (by omega)))) ?_
                    refine OA.pure (dst := (some 9)) (v := (.int .i64 (((jj + 1) : Nat) : Int))) rfl rfl rfl rfl ?_
                    refine OA.nil ?_
                    refine ⟨(i - (jj + 1)), by omega, [(j, some ⟨(l.map ecell), 7, 26, true⟩)], (Less.of (by simp only [List.forall_mem_cons, List.not_mem_nil, false_imp_iff, implies_true, and_true]; exact ⟨by simp only [keys, List.cons_append, List.nil_append, List.map_cons, List.map_nil, List.mem_cons, true_or, or_true], fun _ => (get_here).trans ((get_there (by omega) (get_there (by omega) (get_there (by omega) (get_there (by omega) get_here))))).symm⟩) (by intro x hx; simp only [keys, List.cons_append, List.nil_append, List.map_cons, List.map_nil, List.mem_cons, List.not_mem_nil, or_false, false_or] at hx ⊢; omega)), (jj + 1), rfl, by omega, ⟨rfl, rfl, (kw_yes (by unfold same; exact ⟨hc3, hc4, hc5, hc6⟩)), rfl, rfl, trivial⟩, rfl, (by intro i hi; simp only [keys, List.cons_append, List.nil_append, List.map_cons, List.map_nil, List.mem_cons, List.not_mem_nil, or_false, false_or] at hi; omega), by omega⟩
                  · cases hc
                ·
                  refine OA.pure (dst := (some 74)) (v := (.bool false)) rfl rfl rfl (Eq.trans (r_bin rfl rfl rfl (b_eql rfl)) (by first | (rw [decide_eq_false hc6]; done) | (rw [decide_eq_false hc6]; rfl))) ?_
                  refine OA.pure (dst := (some 75)) (v := (.bool false)) rfl rfl rfl rfl ?_
                  refine OA.nil ?_
                  intro _
                  refine RA.rebase [(1, (.int .i64 most)), (5, (.slice (some ⟨j, 0, none⟩) N 0)), (6, (.int .i64 (kw (outr l i || innr l i jj) false))), (8, (.int .i64 ((i : Nat) : Int))), (9, (.int .i64 ((jj : Nat) : Int))), (10, (.pointer (some ⟨n2, 0, some 0⟩))), (11, (.pointer (some ⟨(n2 + 1), 0, some 0⟩))), (39, (.bool true)), (75, (.bool false))] ⟨rfl, rfl, rfl, rfl, rfl, rfl, rfl, rfl, rfl, trivial⟩ (fun τr4 => ?_)
                  refine RA.cond (t := false) rfl (fun hc => ?_) (fun hc => ?_)
                  · cases hc
                  ·
                    refine RA.skip env_ok ?_
                    intro _
                    refine RA.region env_ok ?_
                    refine OA.pure (dst := (some 40)) (v := (.int .i64 ((jj : Nat) : Int))) rfl rfl rfl rfl ?_
                    refine OA.pure (dst := (some 41)) (v := (.int .i64 (((jj + 1) : Nat) : Int))) rfl rfl rfl (r_bin rfl rfl rfl (b_add (i64_eq (by omega)))) ?_
                    refine OA.pure (dst := (some 9)) (v := (.int .i64 (((jj + 1) : Nat) : Int))) rfl rfl rfl rfl ?_
                    refine OA.nil ?_
                    refine ⟨(i - (jj + 1)), by omega, [(j, some ⟨(l.map ecell), 7, 26, true⟩)], (Less.of (by simp only [List.forall_mem_cons, List.not_mem_nil, false_imp_iff, implies_true, and_true]; exact ⟨by simp only [keys, List.cons_append, List.nil_append, List.map_cons, List.map_nil, List.mem_cons, true_or, or_true], fun _ => (get_here).trans ((get_there (by omega) (get_there (by omega) (get_there (by omega) (get_there (by omega) get_here))))).symm⟩) (by intro x hx; simp only [keys, List.cons_append, List.nil_append, List.map_cons, List.map_nil, List.mem_cons, List.not_mem_nil, or_false, false_or] at hx ⊢; omega)), (jj + 1), rfl, by omega, ⟨rfl, rfl, (kw_no (by unfold same; intro hh; exact hc6 hh.2.2.2)), rfl, rfl, trivial⟩, rfl, (by intro i hi; simp only [keys, List.cons_append, List.nil_append, List.map_cons, List.map_nil, List.mem_cons, List.not_mem_nil, or_false, false_or] at hi; omega), by omega⟩
              ·
                refine OA.pure (dst := (some 67)) (v := (.bool false)) rfl rfl rfl (Eq.trans (r_bin rfl rfl rfl (b_eql rfl)) (by first | (rw [decide_eq_false hc5]; done) | (rw [decide_eq_false hc5]; rfl))) ?_
                refine OA.pure (dst := (some 68)) (v := (.bool false)) rfl rfl rfl rfl ?_
                refine OA.pure (dst := (some 69)) (v := (.bool false)) rfl rfl rfl rfl ?_
                refine OA.off (dst := (some 70)) rfl rfl rfl ?_
                refine OA.off (dst := (some 71)) rfl rfl rfl ?_
                refine OA.off (dst := (some 72)) rfl rfl rfl ?_
                refine OA.off (dst := (some 73)) rfl rfl rfl ?_
                refine OA.off (dst := (some 74)) rfl rfl rfl ?_
                refine OA.pure (dst := (some 75)) (v := (.bool false)) rfl rfl rfl rfl ?_
                refine OA.nil ?_
                intro _
                refine RA.rebase [(1, (.int .i64 most)), (5, (.slice (some ⟨j, 0, none⟩) N 0)), (6, (.int .i64 (kw (outr l i || innr l i jj) false))), (8, (.int .i64 ((i : Nat) : Int))), (9, (.int .i64 ((jj : Nat) : Int))), (10, (.pointer (some ⟨n2, 0, some 0⟩))), (11, (.pointer (some ⟨(n2 + 1), 0, some 0⟩))), (39, (.bool true)), (75, (.bool false))] ⟨rfl, rfl, rfl, rfl, rfl, rfl, rfl, rfl, rfl, trivial⟩ (fun τr5 => ?_)
                refine RA.cond (t := false) rfl (fun hc => ?_) (fun hc => ?_)
                · cases hc
                ·
                  refine RA.skip env_ok ?_
                  intro _
                  refine RA.region env_ok ?_
                  refine OA.pure (dst := (some 40)) (v := (.int .i64 ((jj : Nat) : Int))) rfl rfl rfl rfl ?_
                  refine OA.pure (dst := (some 41)) (v := (.int .i64 (((jj + 1) : Nat) : Int))) rfl rfl rfl (r_bin rfl rfl rfl (b_add (i64_eq (by omega)))) ?_
                  refine OA.pure (dst := (some 9)) (v := (.int .i64 (((jj + 1) : Nat) : Int))) rfl rfl rfl rfl ?_
                  refine OA.nil ?_
                  refine ⟨(i - (jj + 1)), by omega, [(j, some ⟨(l.map ecell), 7, 26, true⟩)], (Less.of (by simp only [List.forall_mem_cons, List.not_mem_nil, false_imp_iff, implies_true, and_true]; exact ⟨by simp only [keys, List.cons_append, List.nil_append, List.map_cons, List.map_nil, List.mem_cons, true_or, or_true], fun _ => (get_here).trans ((get_there (by omega) (get_there (by omega) (get_there (by omega) (get_there (by omega) get_here))))).symm⟩) (by intro x hx; simp only [keys, List.cons_append, List.nil_append, List.map_cons, List.map_nil, List.mem_cons, List.not_mem_nil, or_false, false_or] at hx ⊢; omega)), (jj + 1), rfl, by omega, ⟨rfl, rfl, (kw_no (by unfold same; intro hh; exact hc5 hh.2.2.1)), rfl, rfl, trivial⟩, rfl, (by intro i hi; simp only [keys, List.cons_append, List.nil_append, List.map_cons, List.map_nil, List.mem_cons, List.not_mem_nil, or_false, false_or] at hi; omega), by omega⟩
            ·
              refine OA.pure (dst := (some 60)) (v := (.bool false)) rfl rfl rfl (Eq.trans (r_bin rfl rfl rfl (b_eql rfl)) (by first | (rw [decide_eq_false hc4]; done) | (rw [decide_eq_false hc4]; rfl))) ?_
              refine OA.pure (dst := (some 61)) (v := (.bool false)) rfl rfl rfl rfl ?_
              refine OA.pure (dst := (some 62)) (v := (.bool false)) rfl rfl rfl rfl ?_
              refine OA.off (dst := (some 63)) rfl rfl rfl ?_
              refine OA.off (dst := (some 64)) rfl rfl rfl ?_
              refine OA.off (dst := (some 65)) rfl rfl rfl ?_
              refine OA.off (dst := (some 66)) rfl rfl rfl ?_
              refine OA.off (dst := (some 67)) rfl rfl rfl ?_
              refine OA.pure (dst := (some 68)) (v := (.bool false)) rfl rfl rfl rfl ?_
              refine OA.pure (dst := (some 69)) (v := (.bool false)) rfl rfl rfl rfl ?_
              refine OA.off (dst := (some 70)) rfl rfl rfl ?_
              refine OA.off (dst := (some 71)) rfl rfl rfl ?_
              refine OA.off (dst := (some 72)) rfl rfl rfl ?_
              refine OA.off (dst := (some 73)) rfl rfl rfl ?_
              refine OA.off (dst := (some 74)) rfl rfl rfl ?_
              refine OA.pure (dst := (some 75)) (v := (.bool false)) rfl rfl rfl rfl ?_
              refine OA.nil ?_
              intro _
              refine RA.rebase [(1, (.int .i64 most)), (5, (.slice (some ⟨j, 0, none⟩) N 0)), (6, (.int .i64 (kw (outr l i || innr l i jj) false))), (8, (.int .i64 ((i : Nat) : Int))), (9, (.int .i64 ((jj : Nat) : Int))), (10, (.pointer (some ⟨n2, 0, some 0⟩))), (11, (.pointer (some ⟨(n2 + 1), 0, some 0⟩))), (39, (.bool true)), (75, (.bool false))] ⟨rfl, rfl, rfl, rfl, rfl, rfl, rfl, rfl, rfl, trivial⟩ (fun τr6 => ?_)
              refine RA.cond (t := false) rfl (fun hc => ?_) (fun hc => ?_)
              · cases hc
              ·
                refine RA.skip env_ok ?_
                intro _
                refine RA.region env_ok ?_
                refine OA.pure (dst := (some 40)) (v := (.int .i64 ((jj : Nat) : Int))) rfl rfl rfl rfl ?_
                refine OA.pure (dst := (some 41)) (v := (.int .i64 (((jj + 1) : Nat) : Int))) rfl rfl rfl (r_bin rfl rfl rfl (b_add (i64_eq (by omega)))) ?_
                refine OA.pure (dst := (some 9)) (v := (.int .i64 (((jj + 1) : Nat) : Int))) rfl rfl rfl rfl ?_
                refine OA.nil ?_
                refine ⟨(i - (jj + 1)), by omega, [(j, some ⟨(l.map ecell), 7, 26, true⟩)], (Less.of (by simp only [List.forall_mem_cons, List.not_mem_nil, false_imp_iff, implies_true, and_true]; exact ⟨by simp only [keys, List.cons_append, List.nil_append, List.map_cons, List.map_nil, List.mem_cons, true_or, or_true], fun _ => (get_here).trans ((get_there (by omega) (get_there (by omega) (get_there (by omega) (get_there (by omega) get_here))))).symm⟩) (by intro x hx; simp only [keys, List.cons_append, List.nil_append, List.map_cons, List.map_nil, List.mem_cons, List.not_mem_nil, or_false, false_or] at hx ⊢; omega)), (jj + 1), rfl, by omega, ⟨rfl, rfl, (kw_no (by unfold same; intro hh; exact hc4 hh.2.1)), rfl, rfl, trivial⟩, rfl, (by intro i hi; simp only [keys, List.cons_append, List.nil_append, List.map_cons, List.map_nil, List.mem_cons, List.not_mem_nil, or_false, false_or] at hi; omega), by omega⟩
          ·
            refine OA.pure (dst := (some 54)) (v := (.bool false)) rfl rfl rfl (Eq.trans (r_bin rfl rfl rfl (b_eql rfl)) (by first | (rw [decide_eq_false hc3]; done) | (rw [decide_eq_false hc3]; rfl))) ?_
            refine OA.pure (dst := (some 55)) (v := (.bool false)) rfl rfl rfl rfl ?_
            refine OA.off (dst := (some 56)) rfl rfl rfl ?_
            refine OA.off (dst := (some 57)) rfl rfl rfl ?_
            refine OA.off (dst := (some 58)) rfl rfl rfl ?_
            refine OA.off (dst := (some 59)) rfl rfl rfl ?_
            refine OA.off (dst := (some 60)) rfl rfl rfl ?_
            refine OA.pure (dst := (some 61)) (v := (.bool false)) rfl rfl rfl rfl ?_
            refine OA.pure (dst := (some 62)) (v := (.bool false)) rfl rfl rfl rfl ?_
            refine OA.off (dst := (some 63)) rfl rfl rfl ?_
            refine OA.off (dst := (some 64)) rfl rfl rfl ?_
            refine OA.off (dst := (some 65)) rfl rfl rfl ?_
            refine OA.off (dst := (some 66)) rfl rfl rfl ?_
            refine OA.off (dst := (some 67)) rfl rfl rfl ?_
            refine OA.pure (dst := (some 68)) (v := (.bool false)) rfl rfl rfl rfl ?_
            refine OA.pure (dst := (some 69)) (v := (.bool false)) rfl rfl rfl rfl ?_
            refine OA.off (dst := (some 70)) rfl rfl rfl ?_
            refine OA.off (dst := (some 71)) rfl rfl rfl ?_
            refine OA.off (dst := (some 72)) rfl rfl rfl ?_
            refine OA.off (dst := (some 73)) rfl rfl rfl ?_
            refine OA.off (dst := (some 74)) rfl rfl rfl ?_
            refine OA.pure (dst := (some 75)) (v := (.bool false)) rfl rfl rfl rfl ?_
            refine OA.nil ?_
            intro _
            refine RA.rebase [(1, (.int .i64 most)), (5, (.slice (some ⟨j, 0, none⟩) N 0)), (6, (.int .i64 (kw (outr l i || innr l i jj) false))), (8, (.int .i64 ((i : Nat) : Int))), (9, (.int .i64 ((jj : Nat) : Int))), (10, (.pointer (some ⟨n2, 0, some 0⟩))), (11, (.pointer (some ⟨(n2 + 1), 0, some 0⟩))), (39, (.bool true)), (75, (.bool false))] ⟨rfl, rfl, rfl, rfl, rfl, rfl, rfl, rfl, rfl, trivial⟩ (fun τr7 => ?_)
            refine RA.cond (t := false) rfl (fun hc => ?_) (fun hc => ?_)
            · cases hc
            ·
              refine RA.skip env_ok ?_
              intro _
              refine RA.region env_ok ?_
              refine OA.pure (dst := (some 40)) (v := (.int .i64 ((jj : Nat) : Int))) rfl rfl rfl rfl ?_
              refine OA.pure (dst := (some 41)) (v := (.int .i64 (((jj + 1) : Nat) : Int))) rfl rfl rfl (r_bin rfl rfl rfl (b_add (i64_eq (by omega)))) ?_
              refine OA.pure (dst := (some 9)) (v := (.int .i64 (((jj + 1) : Nat) : Int))) rfl rfl rfl rfl ?_
              refine OA.nil ?_
              refine ⟨(i - (jj + 1)), by omega, [(j, some ⟨(l.map ecell), 7, 26, true⟩)], (Less.of (by simp only [List.forall_mem_cons, List.not_mem_nil, false_imp_iff, implies_true, and_true]; exact ⟨by simp only [keys, List.cons_append, List.nil_append, List.map_cons, List.map_nil, List.mem_cons, true_or, or_true], fun _ => (get_here).trans ((get_there (by omega) (get_there (by omega) (get_there (by omega) (get_there (by omega) get_here))))).symm⟩) (by intro x hx; simp only [keys, List.cons_append, List.nil_append, List.map_cons, List.map_nil, List.mem_cons, List.not_mem_nil, or_false, false_or] at hx ⊢; omega)), (jj + 1), rfl, by omega, ⟨rfl, rfl, (kw_no (by unfold same; intro hh; exact hc3 hh.1)), rfl, rfl, trivial⟩, rfl, (by intro i hi; simp only [keys, List.cons_append, List.nil_append, List.map_cons, List.map_nil, List.mem_cons, List.not_mem_nil, or_false, false_or] at hi; omega), by omega⟩
        · cases hc
      ·
        refine OA.pure (dst := (some 39)) (v := (.bool false)) rfl rfl rfl (Eq.trans (r_bin rfl rfl rfl (b_lss rfl)) (by first | (rw [decide_eq_false hc2]; done) | (rw [decide_eq_false hc2]; rfl))) ?_
        refine OA.nil ?_
        intro _
        refine RA.cond (t := false) rfl (fun hc => ?_) (fun hc => ?_)
        · cases hc
        ·
          refine RA.exit env_ok ?_
          intro _
          refine RA.region env_ok ?_
          refine OA.pure (dst := (some 35)) (v := (.int .i64 ((i : Nat) : Int))) rfl rfl rfl rfl ?_
          refine OA.pure (dst := (some 36)) (v := (.int .i64 (((i + 1) : Nat) : Int))) rfl rfl rfl (r_bin rfl rfl rfl (b_add (i64_eq (by omega)))) ?_
          refine OA.pure (dst := (some 8)) (v := (.int .i64 (((i + 1) : Nat) : Int))) rfl rfl rfl rfl ?_
          refine OA.nil ?_
          refine ⟨(N - (i + 1)), by omega, [(j, some ⟨(l.map ecell), 7, 26, true⟩)], (Less.refl _ _ _), (i + 1), rfl, by omega, ⟨rfl, rfl, (by show Value.int _ _ = Value.int _ _; rw [show jj = i from by omega] <;> rfl), rfl, trivial⟩, rfl, (by intro i hi; simp only [keys, List.cons_append, List.nil_append, List.map_cons, List.map_nil, List.mem_cons, List.not_mem_nil, or_false, false_or] at hi; omega), by omega⟩
    · cases hc
  ·
    refine OA.pure (dst := (some 34)) (v := (.bool false)) rfl rfl rfl (Eq.trans (r_bin rfl rfl rfl (b_lss rfl)) (by first | (rw [decide_eq_false hc1]; done) | (rw [decide_eq_false hc1]; rfl))) ?_
    refine OA.nil ?_
    intro _
    refine RA.cond (t := false) rfl (fun hc => ?_) (fun hc => ?_)
    · cases hc
    ·
      refine RA.exit env_ok ?_
      intro _
      refine RA.seq hd ?_
      refine RA.seq hd ?_
      refine RA.region env_ok ?_
      refine OA.pure (dst := (some 78)) (v := (.slice (some ⟨j, 0, none⟩) N 0)) rfl rfl rfl rfl ?_
      refine OA.pure (dst := (some 79)) (v := (.int .i64 ((N : Nat) : Int))) rfl rfl rfl rfl ?_
      refine OA.pure (dst := (some 80)) (v := (.int .i64 most)) rfl rfl rfl rfl ?_
      have hm8 := andN_le most 15 (by decide)
      refine OA.pure (dst := (some 81)) (v := (.int .i64 (((andN most 15) : Nat) : Int))) rfl rfl rfl (r_bin rfl rfl rfl (b_andN most 15 (by decide))) ?_
      by_cases hc7 : (((andN most 15) : Nat) : Int) < ((N : Nat) : Int)
      ·
        refine OA.pure (dst := (some 82)) (v := (.bool true)) rfl rfl rfl (Eq.trans (r_bin rfl rfl rfl (b_gtr rfl)) (by first | (rw [decide_eq_true hc7]; done) | (rw [decide_eq_true hc7]; rfl))) ?_
        refine OA.nil ?_
        intro _
        refine RA.cond (t := true) rfl (fun hc => ?_) (fun hc => ?_)
        ·
          refine RA.region env_ok ?_
          refine OA.pure (dst := (some 83)) (v := (.int .i64 (kw (outr l i) false))) rfl rfl rfl rfl ?_
          refine OA.pure (dst := (some 84)) (v := (.int .i64 (kw (outr l i) true))) rfl rfl rfl (r_bin rfl rfl rfl (b_kw2 (outr l i) false)) ?_
          refine OA.pure (dst := (some 6)) (v := (.int .i64 (kw (outr l i) true))) rfl rfl rfl rfl ?_
          refine OA.nil ?_
          intro _
          refine RA.seq hd ?_
          refine RA.region env_ok ?_
          refine OA.callP (dst := (some 85)) (all := []) (v := (.bool true)) (hd.of (by omega) (by intro i hi; simp only [keys, List.cons_append, List.nil_append, List.map_cons, List.map_nil, List.mem_cons, List.not_mem_nil, or_false, false_or] at hi; omega)) rfl rfl rfl rfl rfl rfl rfl rfl awakeT ?_
          intro n9 hn9
          refine OA.pure (dst := (some 86)) (v := (.bool true)) rfl rfl rfl rfl ?_
          refine OA.pure (dst := (some 87)) (v := (.slice (some ⟨j, 0, none⟩) N 0)) rfl rfl rfl rfl ?_
          refine OA.pure (dst := (some 88)) (v := (.int .i64 most)) rfl rfl rfl rfl ?_
          have hm10 := andN_le most 15 (by decide)
          refine OA.pure (dst := (some 89)) (v := (.int .i64 (((andN most 15) : Nat) : Int))) rfl rfl rfl (r_bin rfl rfl rfl (b_andN most 15 (by decide))) ?_
          refine OA.callP (dst := (some 90)) (all := [(.slice (some ⟨j, 0, none⟩) N 0), (.int .i64 (((andN most 15) : Nat) : Int))]) (v := (.int .i64 (kw (outr l i) true))) (hd.of (by omega) (by intro i hi; simp only [keys, List.cons_append, List.nil_append, List.map_cons, List.map_nil, List.mem_cons, List.not_mem_nil, or_false, false_or] at hi; omega)) rfl rfl rfl rfl rfl rfl rfl rfl (PS.to (aTable l N hl (by omega) j (andN most 15) get_here) (congrArg (Value.int .i64) (by rw [decide_eq_true (by omega), show N = i from by omega]))) ?_
          intro n11 hn11
          refine OA.pure (dst := (some 91)) (v := (.int .i64 (kw (outr l i) true))) rfl rfl rfl rfl ?_
          refine OA.pure (dst := (some 92)) (v := (.bool true)) rfl rfl rfl (r_bin rfl rfl rfl (b_eql (decide_eq_true rfl))) ?_
          refine OA.pure (dst := (some 93)) (v := (.bool true)) rfl rfl rfl rfl ?_
          refine OA.pure (dst := (some 4)) (v := (.bool true)) rfl rfl rfl rfl ?_
          refine OA.nil ?_
          intro _
          refine RA.ret env_ok ?_
          refine ⟨.inr rfl, [(.bool true)], (resL_cons rfl resL_nil), rfl, (by intro i hi; simp only [keys, List.cons_append, List.nil_append, List.map_cons, List.map_nil, List.mem_cons, List.not_mem_nil, or_false, false_or] at hi; omega)⟩
        · cases hc
      ·
        refine OA.pure (dst := (some 82)) (v := (.bool false)) rfl rfl rfl (Eq.trans (r_bin rfl rfl rfl (b_gtr rfl)) (by first | (rw [decide_eq_false hc7]; done) | (rw [decide_eq_false hc7]; rfl))) ?_
        refine OA.nil ?_
        intro _
        refine RA.cond (t := false) rfl (fun hc => ?_) (fun hc => ?_)
        · cases hc
        ·
          refine RA.skip env_ok ?_
          intro _
          refine RA.seq hd ?_
          refine RA.region env_ok ?_
          refine OA.callP (dst := (some 85)) (all := []) (v := (.bool true)) (hd.of (by omega) (by intro i hi; simp only [keys, List.cons_append, List.nil_append, List.map_cons, List.map_nil, List.mem_cons, List.not_mem_nil, or_false, false_or] at hi; omega)) rfl rfl rfl rfl rfl rfl rfl rfl awakeT ?_
          intro n12 hn12
          refine OA.pure (dst := (some 86)) (v := (.bool true)) rfl rfl rfl rfl ?_
          refine OA.pure (dst := (some 87)) (v := (.slice (some ⟨j, 0, none⟩) N 0)) rfl rfl rfl rfl ?_
          refine OA.pure (dst := (some 88)) (v := (.int .i64 most)) rfl rfl rfl rfl ?_
          have hm13 := andN_le most 15 (by decide)
          refine OA.pure (dst := (some 89)) (v := (.int .i64 (((andN most 15) : Nat) : Int))) rfl rfl rfl (r_bin rfl rfl rfl (b_andN most 15 (by decide))) ?_
          refine OA.callP (dst := (some 90)) (all := [(.slice (some ⟨j, 0, none⟩) N 0), (.int .i64 (((andN most 15) : Nat) : Int))]) (v := (.int .i64 (kw (outr l i) false))) (hd.of (by omega) (by intro i hi; simp only [keys, List.cons_append, List.nil_append, List.map_cons, List.map_nil, List.mem_cons, List.not_mem_nil, or_false, false_or] at hi; omega)) rfl rfl rfl rfl rfl rfl rfl rfl (PS.to (aTable l N hl (by omega) j (andN most 15) get_here) (congrArg (Value.int .i64) (by rw [decide_eq_false (by omega), show N = i from by omega]))) ?_
          intro n14 hn14
          refine OA.pure (dst := (some 91)) (v := (.int .i64 (kw (outr l i) false))) rfl rfl rfl rfl ?_
          refine OA.pure (dst := (some 92)) (v := (.bool true)) rfl rfl rfl (r_bin rfl rfl rfl (b_eql (decide_eq_true rfl))) ?_
          refine OA.pure (dst := (some 93)) (v := (.bool true)) rfl rfl rfl rfl ?_
          refine OA.pure (dst := (some 4)) (v := (.bool true)) rfl rfl rfl rfl ?_
          refine OA.nil ?_
          intro _
          refine RA.ret env_ok ?_
          refine ⟨.inr rfl, [(.bool true)], (resL_cons rfl resL_nil), rfl, (by intro i hi; simp only [keys, List.cons_append, List.nil_append, List.map_cons, List.map_nil, List.mem_cons, List.not_mem_nil, or_false, false_or] at hi; omega)⟩

theorem aLaw1 {σ : Store} (l0 : List Ent) (r : Nat) (most : Int) (hr : σ r = some ⟨(l0.map ecell), 7, 26, false⟩)  : PS Try.prog noDen 3 [(.slice (some ⟨r, 0, none⟩) l0.length 0), (.int .i64 most)] σ (.bool true) := by
  refine PS.body (E := env) env_ok rfl rfl (by show _ ≤ _; exact of_decide_eq_true (by kernel_rfl)) (fun n hd => ?_)
  have lhr := hd.lt hr
  refine RA.seq hd ?_
  refine RA.region env_ok ?_
  refine OA.pure (dst := (some 4)) (v := (.bool false)) rfl rfl rfl rfl ?_
  refine OA.nil ?_
  intro _
  refine RA.seq hd ?_
  refine RA.region env_ok ?_
  refine OA.op (dst := (some 12)) (v := (.slice (some ⟨n, 0, none⟩) 0 0)) (n1 := (n + 1)) (d1 := [(n, some ⟨[], 7, 26, true⟩)]) (D' := [(n, some ⟨[], 7, 26, true⟩)]) rfl rfl rfl (by kernel_rfl) (by omega) rfl ?_
  refine OA.pure (dst := (some 5)) (v := (.slice (some ⟨n, 0, none⟩) 0 0)) rfl rfl rfl rfl ?_
  refine OA.pure (dst := (some 6)) (v := (.int .i64 0)) rfl rfl rfl rfl ?_
  refine OA.nil ?_
  intro _
  refine RA.seq hd ?_
  refine RA.seq hd ?_
  refine RA.region env_ok ?_
  refine OA.pure (dst := (some 7)) (v := (.int .i64 0)) rfl rfl rfl rfl ?_
  refine OA.nil ?_
  intro _
  refine RA.block ?_
  refine RA.loop hd (fun kk_ τ n' D => ∃ i : Nat, ∃ j : Nat,  kk_ = (12 - i) ∧ (n + 1) ≤ n' ∧ Has τ [(0, (.slice (some ⟨r, 0, none⟩) l0.length 0)), (1, (.int .i64 most)), (5, (.slice (some ⟨j, 0, none⟩) i 0)), (6, (.int .i64 0)), (7, (.int .i64 ((i : Nat) : Int)))] ∧ D = [(j, some ⟨(((l0.take i).map near).map ecell), 7, 26, true⟩)] ∧ (∀ i ∈ keys D, i < n') ∧ i ≤ 12 ∧ i ≤ l0.length ∧ n ≤ j) ((12 - 0)) ⟨0, n, rfl, by omega, ⟨rfl, rfl, rfl, rfl, rfl, trivial⟩, rfl, (by intro i hi; simp only [keys, List.cons_append, List.nil_append, List.map_cons, List.map_nil, List.mem_cons, List.not_mem_nil, or_false, false_or] at hi; omega), ⟨by omega, by omega, by omega⟩⟩ ?_
  rintro kn1 τ1 n1 _ ⟨i, j, rfl, hn1, hHn1, rfl, hKn1, hIn1⟩
  rw [Has.eq hHn1]
  have hKn1_0 : j < n1 := hKn1 _ (by simp only [keys, List.map_cons, List.map_nil, List.mem_cons, true_or, or_true])
  simp only [keys, List.map, List.forall_mem_cons, List.mem_cons, List.not_mem_nil, false_imp_iff, implies_true, and_true] at hKn1
  obtain ⟨hi1, hi2, hnj⟩ := hIn1
  refine RA.seq hd ?_
  refine RA.seq hd ?_
  refine RA.region env_ok ?_
  refine OA.pure (dst := (some 13)) (v := (.int .i64 ((i : Nat) : Int))) rfl rfl rfl rfl ?_
  refine OA.pure (dst := (some 14)) (v := (.slice (some ⟨r, 0, none⟩) l0.length 0)) rfl rfl rfl rfl ?_
  refine OA.pure (dst := (some 15)) (v := (.int .i64 ((l0.length : Nat) : Int))) rfl rfl rfl rfl ?_
  by_cases hc1 : ((i : Nat) : Int) < ((l0.length : Nat) : Int)
  ·
    refine OA.pure (dst := (some 16)) (v := (.bool true)) rfl rfl rfl (Eq.trans (r_bin rfl rfl rfl (b_lss rfl)) (by first | (rw [decide_eq_true hc1]; done) | (rw [decide_eq_true hc1]; rfl))) ?_
    refine OA.pure (dst := (some 17)) (v := (.bool true)) rfl rfl rfl rfl ?_
    refine OA.pure (dst := (some 18)) (v := (.int .i64 ((i : Nat) : Int))) rfl rfl rfl rfl ?_
    by_cases hc2 : ((i : Nat) : Int) < 12
    ·
      refine OA.pure (dst := (some 19)) (v := (.bool true)) rfl rfl rfl (Eq.trans (r_bin rfl rfl rfl (b_lss rfl)) (by first | (rw [decide_eq_true hc2]; done) | (rw [decide_eq_true hc2]; rfl))) ?_
      refine OA.pure (dst := (some 20)) (v := (.bool true)) rfl rfl rfl rfl ?_
      refine OA.nil ?_
      intro _
      refine RA.cond (t := true) rfl (fun hc => ?_) (fun hc => ?_)
      ·
        refine RA.skip env_ok ?_
        intro _
        refine RA.seq hd ?_
        refine RA.block ?_
        refine RA.region env_ok ?_
        refine OA.pure (dst := (some 23)) (v := (.slice (some ⟨j, 0, none⟩) i 0)) rfl rfl rfl rfl ?_
        refine OA.pure (dst := (some 24)) (v := (.slice (some ⟨r, 0, none⟩) l0.length 0)) rfl rfl rfl rfl ?_
        refine OA.pure (dst := (some 25)) (v := (.int .i64 ((i : Nat) : Int))) rfl rfl rfl rfl ?_
        refine OA.pure (dst := (some 26)) (v := (.pointer (some ⟨r, i, some 0⟩))) rfl rfl rfl (r_iaS (l := i) rfl rfl rfl rfl rfl rfl (by omega) (by omega) (get_there (by omega) hr) rfl (by omega)) ?_
        refine OA.pure (dst := (some 27)) (v := (.agg ⟨[(W (l0.getD i e0).inner), (.int .i64 (l0.getD i e0).port), (W (l0.getD i e0).peer), (.int .i64 (l0.getD i e0).pport), (W (l0.getD i e0).inn), (W (l0.getD i e0).out), (.int .i64 (l0.getD i e0).seen)]⟩)) rfl rfl rfl (r_loadA (e := ecell (l0.getD i e0)) rfl rfl rfl rfl (get_there (by omega) hr) (rec_get (by rw [show l0.length = l0.length from rfl]; omega)) rfl rfl) ?_
        refine OA.callP (dst := (some 28)) (all := [(.agg ⟨[(W (l0.getD i e0).inner), (.int .i64 (l0.getD i e0).port), (W (l0.getD i e0).peer), (.int .i64 (l0.getD i e0).pport), (W (l0.getD i e0).inn), (W (l0.getD i e0).out), (.int .i64 (l0.getD i e0).seen)]⟩)]) (v := (.agg ⟨(ecell (near (l0.getD i e0)))⟩)) (hd.of (by omega) (by intro i hi; simp only [keys, List.cons_append, List.nil_append, List.map_cons, List.map_nil, List.mem_cons, List.not_mem_nil, or_false, false_or] at hi; omega)) rfl rfl rfl rfl rfl rfl rfl rfl (aNear (l0.getD i e0)) ?_
        intro n2 hn2
        refine OA.op (dst := (some 29)) (v := (.slice (some ⟨n2, 0, none⟩) 1 0)) (n1 := (n2 + 1)) (d1 := [(n2, some ⟨[(ecell (near (l0.getD i e0)))], 7, 26, true⟩)]) (D' := [(n2, some ⟨[(ecell (near (l0.getD i e0)))], 7, 26, true⟩), (j, some ⟨(((l0.take i).map near).map ecell), 7, 26, true⟩)]) rfl rfl rfl (by kernel_rfl) (by omega) rfl ?_
        refine OA.op (dst := (some 30)) (v := (.slice (some ⟨(n2 + 1), 0, none⟩) (i + 1) 0)) (n1 := (n2 + 2)) (d1 := [((n2 + 1), some ⟨((((l0.take i).map near).map ecell) ++ [(ecell (near (l0.getD i e0)))]), 7, 26, true⟩), (j, none)]) (D' := [((n2 + 1), some ⟨((((l0.take i).map near).map ecell) ++ [(ecell (near (l0.getD i e0)))]), 7, 26, true⟩), (j, none), (n2, some ⟨[(ecell (near (l0.getD i e0)))], 7, 26, true⟩), (j, some ⟨(((l0.take i).map near).map ecell), 7, 26, true⟩)]) rfl rfl rfl (r_append rfl rfl rfl rfl rfl rfl rfl rfl rfl rfl (by decide) (get_there (by omega) get_here) get_here (by first | exact takeLen (by omega) | (rw [takeLen (by omega)]; done) | (rw [List.length_map]; exact takeLen (by omega))) (by omega) (of_decide_eq_true (by kernel_rfl)) rfl) (by omega) rfl ?_
        refine OA.pure (dst := (some 5)) (v := (.slice (some ⟨(n2 + 1), 0, none⟩) (i + 1) 0)) rfl rfl rfl rfl ?_
        refine OA.nil ?_
        intro _
        refine RA.region env_ok ?_
        refine OA.pure (dst := (some 21)) (v := (.int .i64 ((i : Nat) : Int))) rfl rfl rfl rfl ?_
        refine OA.pure (dst := (some 22)) (v := (.int .i64 (((i + 1) : Nat) : Int))) rfl rfl rfl (r_bin rfl rfl rfl (b_add (i64_eq (by omega)))) ?_
        refine OA.pure (dst := (some 7)) (v := (.int .i64 (((i + 1) : Nat) : Int))) rfl rfl rfl rfl ?_
        refine OA.nil ?_
        refine ⟨(12 - (i + 1)), by omega, [((n2 + 1), some ⟨((((l0.take i).map near).map ecell) ++ [(ecell (near (l0.getD i e0)))]), 7, 26, true⟩)], (Less.of (by simp only [List.forall_mem_cons, List.not_mem_nil, false_imp_iff, implies_true, and_true]; exact ⟨by simp only [keys, List.cons_append, List.nil_append, List.map_cons, List.map_nil, List.mem_cons, true_or, or_true], fun _ => (get_here).trans (get_here).symm⟩) (by intro x hx; simp only [keys, List.cons_append, List.nil_append, List.map_cons, List.map_nil, List.mem_cons, List.not_mem_nil, or_false, false_or] at hx ⊢; omega)), (i + 1), (n2 + 1), rfl, by omega, ⟨rfl, rfl, rfl, rfl, rfl, trivial⟩, (by rw [← rec_snoc (by omega)] <;> rfl), (by intro i hi; simp only [keys, List.cons_append, List.nil_append, List.map_cons, List.map_nil, List.mem_cons, List.not_mem_nil, or_false, false_or] at hi; omega), ⟨by omega, by omega, by omega⟩⟩
      · cases hc
    ·
      refine OA.pure (dst := (some 19)) (v := (.bool false)) rfl rfl rfl (Eq.trans (r_bin rfl rfl rfl (b_lss rfl)) (by first | (rw [decide_eq_false hc2]; done) | (rw [decide_eq_false hc2]; rfl))) ?_
      refine OA.pure (dst := (some 20)) (v := (.bool false)) rfl rfl rfl rfl ?_
      refine OA.nil ?_
      intro _
      refine RA.cond (t := false) rfl (fun hc => ?_) (fun hc => ?_)
      · cases hc
      ·
        refine RA.exit env_ok ?_
        intro _
        refine RA.weaken (D' := [(j, some ⟨(((l0.take i).map near).map ecell), 7, 26, true⟩)]) hd (Less.refl _ _ _) ?_
        refine RA.rebase [(1, (.int .i64 most)), (5, (.slice (some ⟨j, 0, none⟩) i 0)), (6, (.int .i64 0))] ⟨rfl, rfl, rfl, trivial⟩ (fun τr => ?_)
        exact aSuf hd ((l0.take i).map near) i (takeLen (by omega)) (by omega) j (by omega) most n1 (by omega) τr
  ·
    refine OA.pure (dst := (some 16)) (v := (.bool false)) rfl rfl rfl (Eq.trans (r_bin rfl rfl rfl (b_lss rfl)) (by first | (rw [decide_eq_false hc1]; done) | (rw [decide_eq_false hc1]; rfl))) ?_
    refine OA.pure (dst := (some 17)) (v := (.bool false)) rfl rfl rfl rfl ?_
    refine OA.off (dst := (some 18)) rfl rfl rfl ?_
    refine OA.off (dst := (some 19)) rfl rfl rfl ?_
    refine OA.pure (dst := (some 20)) (v := (.bool false)) rfl rfl rfl rfl ?_
    refine OA.nil ?_
    intro _
    refine RA.cond (t := false) rfl (fun hc => ?_) (fun hc => ?_)
    · cases hc
    ·
      refine RA.exit env_ok ?_
      intro _
      refine RA.weaken (D' := [(j, some ⟨(((l0.take i).map near).map ecell), 7, 26, true⟩)]) hd (Less.refl _ _ _) ?_
      refine RA.rebase [(1, (.int .i64 most)), (5, (.slice (some ⟨j, 0, none⟩) i 0)), (6, (.int .i64 0))] ⟨rfl, rfl, rfl, trivial⟩ (fun τr => ?_)
      exact aSuf hd ((l0.take i).map near) i (takeLen (by omega)) (by omega) j (by omega) most n1 (by omega) τr

theorem aLaw2 {σ : Store}  (most : Int)   : PS Try.prog noDen 3 [(.slice none 0 0), (.int .i64 most)] σ (.bool true) := by
  refine PS.body (E := env) env_ok rfl rfl (by show _ ≤ _; exact of_decide_eq_true (by kernel_rfl)) (fun n hd => ?_)
  refine RA.seq hd ?_
  refine RA.region env_ok ?_
  refine OA.pure (dst := (some 4)) (v := (.bool false)) rfl rfl rfl rfl ?_
  refine OA.nil ?_
  intro _
  refine RA.seq hd ?_
  refine RA.region env_ok ?_
  refine OA.op (dst := (some 12)) (v := (.slice (some ⟨n, 0, none⟩) 0 0)) (n1 := (n + 1)) (d1 := [(n, some ⟨[], 7, 26, true⟩)]) (D' := [(n, some ⟨[], 7, 26, true⟩)]) rfl rfl rfl (by kernel_rfl) (by omega) rfl ?_
  refine OA.pure (dst := (some 5)) (v := (.slice (some ⟨n, 0, none⟩) 0 0)) rfl rfl rfl rfl ?_
  refine OA.pure (dst := (some 6)) (v := (.int .i64 0)) rfl rfl rfl rfl ?_
  refine OA.nil ?_
  intro _
  refine RA.seq hd ?_
  refine RA.seq hd ?_
  refine RA.region env_ok ?_
  refine OA.pure (dst := (some 7)) (v := (.int .i64 0)) rfl rfl rfl rfl ?_
  refine OA.nil ?_
  intro _
  refine RA.block ?_
  refine RA.loop hd (fun kk_ τ n' D => ∃ i : Nat, ∃ j : Nat,  kk_ = (12 - i) ∧ (n + 1) ≤ n' ∧ Has τ [(0, (.slice none 0 0)), (1, (.int .i64 most)), (5, (.slice (some ⟨j, 0, none⟩) i 0)), (6, (.int .i64 0)), (7, (.int .i64 ((i : Nat) : Int)))] ∧ D = [(j, some ⟨(((([] : List Ent).take i).map near).map ecell), 7, 26, true⟩)] ∧ (∀ i ∈ keys D, i < n') ∧ i ≤ 12 ∧ i ≤ ([] : List Ent).length ∧ n ≤ j) ((12 - 0)) ⟨0, n, rfl, by omega, ⟨rfl, rfl, rfl, rfl, rfl, trivial⟩, rfl, (by intro i hi; simp only [keys, List.cons_append, List.nil_append, List.map_cons, List.map_nil, List.mem_cons, List.not_mem_nil, or_false, false_or] at hi; omega), ⟨by omega, by omega, by omega⟩⟩ ?_
  rintro kn1 τ1 n1 _ ⟨i, j, rfl, hn1, hHn1, rfl, hKn1, hIn1⟩
  rw [Has.eq hHn1]
  have hKn1_0 : j < n1 := hKn1 _ (by simp only [keys, List.map_cons, List.map_nil, List.mem_cons, true_or, or_true])
  simp only [keys, List.map, List.forall_mem_cons, List.mem_cons, List.not_mem_nil, false_imp_iff, implies_true, and_true] at hKn1
  obtain ⟨hi1, hi2, hnj⟩ := hIn1
  refine RA.seq hd ?_
  refine RA.seq hd ?_
  refine RA.region env_ok ?_
  refine OA.pure (dst := (some 13)) (v := (.int .i64 ((i : Nat) : Int))) rfl rfl rfl rfl ?_
  refine OA.pure (dst := (some 14)) (v := (.slice none 0 0)) rfl rfl rfl rfl ?_
  refine OA.pure (dst := (some 15)) (v := (.int .i64 0)) rfl rfl rfl rfl ?_
  by_cases hc1 : ((i : Nat) : Int) < 0
  · exfalso; omega
  ·
    refine OA.pure (dst := (some 16)) (v := (.bool false)) rfl rfl rfl (Eq.trans (r_bin rfl rfl rfl (b_lss rfl)) (by first | (rw [decide_eq_false hc1]; done) | (rw [decide_eq_false hc1]; rfl))) ?_
    refine OA.pure (dst := (some 17)) (v := (.bool false)) rfl rfl rfl rfl ?_
    refine OA.off (dst := (some 18)) rfl rfl rfl ?_
    refine OA.off (dst := (some 19)) rfl rfl rfl ?_
    refine OA.pure (dst := (some 20)) (v := (.bool false)) rfl rfl rfl rfl ?_
    refine OA.nil ?_
    intro _
    refine RA.cond (t := false) rfl (fun hc => ?_) (fun hc => ?_)
    · cases hc
    ·
      refine RA.exit env_ok ?_
      intro _
      refine RA.weaken (D' := [(j, some ⟨(((([] : List Ent).take i).map near).map ecell), 7, 26, true⟩)]) hd (Less.refl _ _ _) ?_
      refine RA.rebase [(1, (.int .i64 most)), (5, (.slice (some ⟨j, 0, none⟩) i 0)), (6, (.int .i64 0))] ⟨rfl, rfl, rfl, trivial⟩ (fun τr => ?_)
      exact aSuf hd ((([] : List Ent).take i).map near) i (takeLen (by omega)) (by omega) j (by omega) most n1 (by omega) τr

theorem aLaw3 {σ : Store} (r : Nat) (most : Int)   : PS Try.prog noDen 3 [(.slice (some ⟨r, 0, none⟩) 0 1), (.int .i64 most)] σ (.bool true) := by
  refine PS.body (E := env) env_ok rfl rfl (by show _ ≤ _; exact of_decide_eq_true (by kernel_rfl)) (fun n hd => ?_)
  refine RA.seq hd ?_
  refine RA.region env_ok ?_
  refine OA.pure (dst := (some 4)) (v := (.bool false)) rfl rfl rfl rfl ?_
  refine OA.nil ?_
  intro _
  refine RA.seq hd ?_
  refine RA.region env_ok ?_
  refine OA.op (dst := (some 12)) (v := (.slice (some ⟨n, 0, none⟩) 0 0)) (n1 := (n + 1)) (d1 := [(n, some ⟨[], 7, 26, true⟩)]) (D' := [(n, some ⟨[], 7, 26, true⟩)]) rfl rfl rfl (by kernel_rfl) (by omega) rfl ?_
  refine OA.pure (dst := (some 5)) (v := (.slice (some ⟨n, 0, none⟩) 0 0)) rfl rfl rfl rfl ?_
  refine OA.pure (dst := (some 6)) (v := (.int .i64 0)) rfl rfl rfl rfl ?_
  refine OA.nil ?_
  intro _
  refine RA.seq hd ?_
  refine RA.seq hd ?_
  refine RA.region env_ok ?_
  refine OA.pure (dst := (some 7)) (v := (.int .i64 0)) rfl rfl rfl rfl ?_
  refine OA.nil ?_
  intro _
  refine RA.block ?_
  refine RA.loop hd (fun kk_ τ n' D => ∃ i : Nat, ∃ j : Nat,  kk_ = (12 - i) ∧ (n + 1) ≤ n' ∧ Has τ [(0, (.slice (some ⟨r, 0, none⟩) 0 1)), (1, (.int .i64 most)), (5, (.slice (some ⟨j, 0, none⟩) i 0)), (6, (.int .i64 0)), (7, (.int .i64 ((i : Nat) : Int)))] ∧ D = [(j, some ⟨(((([] : List Ent).take i).map near).map ecell), 7, 26, true⟩)] ∧ (∀ i ∈ keys D, i < n') ∧ i ≤ 12 ∧ i ≤ ([] : List Ent).length ∧ n ≤ j) ((12 - 0)) ⟨0, n, rfl, by omega, ⟨rfl, rfl, rfl, rfl, rfl, trivial⟩, rfl, (by intro i hi; simp only [keys, List.cons_append, List.nil_append, List.map_cons, List.map_nil, List.mem_cons, List.not_mem_nil, or_false, false_or] at hi; omega), ⟨by omega, by omega, by omega⟩⟩ ?_
  rintro kn1 τ1 n1 _ ⟨i, j, rfl, hn1, hHn1, rfl, hKn1, hIn1⟩
  rw [Has.eq hHn1]
  have hKn1_0 : j < n1 := hKn1 _ (by simp only [keys, List.map_cons, List.map_nil, List.mem_cons, true_or, or_true])
  simp only [keys, List.map, List.forall_mem_cons, List.mem_cons, List.not_mem_nil, false_imp_iff, implies_true, and_true] at hKn1
  obtain ⟨hi1, hi2, hnj⟩ := hIn1
  refine RA.seq hd ?_
  refine RA.seq hd ?_
  refine RA.region env_ok ?_
  refine OA.pure (dst := (some 13)) (v := (.int .i64 ((i : Nat) : Int))) rfl rfl rfl rfl ?_
  refine OA.pure (dst := (some 14)) (v := (.slice (some ⟨r, 0, none⟩) 0 1)) rfl rfl rfl rfl ?_
  refine OA.pure (dst := (some 15)) (v := (.int .i64 0)) rfl rfl rfl rfl ?_
  by_cases hc1 : ((i : Nat) : Int) < 0
  · exfalso; omega
  ·
    refine OA.pure (dst := (some 16)) (v := (.bool false)) rfl rfl rfl (Eq.trans (r_bin rfl rfl rfl (b_lss rfl)) (by first | (rw [decide_eq_false hc1]; done) | (rw [decide_eq_false hc1]; rfl))) ?_
    refine OA.pure (dst := (some 17)) (v := (.bool false)) rfl rfl rfl rfl ?_
    refine OA.off (dst := (some 18)) rfl rfl rfl ?_
    refine OA.off (dst := (some 19)) rfl rfl rfl ?_
    refine OA.pure (dst := (some 20)) (v := (.bool false)) rfl rfl rfl rfl ?_
    refine OA.nil ?_
    intro _
    refine RA.cond (t := false) rfl (fun hc => ?_) (fun hc => ?_)
    · cases hc
    ·
      refine RA.exit env_ok ?_
      intro _
      refine RA.weaken (D' := [(j, some ⟨(((([] : List Ent).take i).map near).map ecell), 7, 26, true⟩)]) hd (Less.refl _ _ _) ?_
      refine RA.rebase [(1, (.int .i64 most)), (5, (.slice (some ⟨j, 0, none⟩) i 0)), (6, (.int .i64 0))] ⟨rfl, rfl, rfl, trivial⟩ (fun τr => ?_)
      exact aSuf hd ((([] : List Ent).take i).map near) i (takeLen (by omega)) (by omega) j (by omega) most n1 (by omega) τr
end Go.Proofs.Ytnjknabighmedaa.Vt
