/- Nf: walks through functions of the program, by the calculus; written by a program of this workplace. -/
import Derived.Test.YtnjknabighmedaaEnv
namespace Go.Proofs.Ytnjknabighmedaa.Vt
open Go Go.Proofs Go.Proofs.YtnjknabighmedaaV
set_option maxRecDepth 100000
set_option linter.unusedVariables false
set_option linter.unusedSimpArgs false
theorem awake {σ : Store} : PS Try.prog noDen 30 [] σ (.bool true) := PS.closed env_ok rfl (F := 100) (k := 20) (by kernel_rfl) rfl rfl
theorem nNew {n : Nat} {σ : Store} (hd : Dom n σ)    : CQ Try.prog noDen 27 [] n σ (fun v n' d => ∃ i, n ≤ i ∧ i < n' ∧ v = .pointer (some ⟨i, 0, some 0⟩) ∧ d = [(i, some ⟨[[(.slice none 0 0), (.int .i64 0)]], 2, 115, true⟩)]) := by
  refine CQ.body (E := env) env_ok hd rfl rfl (by show _ ≤ _; exact of_decide_eq_true (by kernel_rfl)) ?_
  refine RA.seq hd ?_
  refine RA.region env_ok ?_
  refine OA.pure (dst := (some 0)) (v := (.pointer none)) rfl rfl rfl rfl ?_
  refine OA.nil ?_
  intro _
  refine RA.seq hd ?_
  refine RA.region env_ok ?_
  refine OA.pure (dst := (some 1)) (v := (.agg ⟨[(.slice none 0 0), (.int .i64 0)]⟩)) rfl rfl rfl (by kernel_rfl) ?_
  refine OA.op (dst := (some 2)) (v := (.pointer (some ⟨n, 0, some 0⟩))) (n1 := (n + 1)) (d1 := [(n, some ⟨[[(.slice none 0 0), (.int .i64 0)]], 2, 115, true⟩)]) (D' := [(n, some ⟨[[(.slice none 0 0), (.int .i64 0)]], 2, 115, true⟩)]) rfl rfl rfl rfl (by omega) rfl ?_
  refine OA.pure (dst := (some 0)) (v := (.pointer (some ⟨n, 0, some 0⟩))) rfl rfl rfl rfl ?_
  refine OA.nil ?_
  intro _
  refine RA.ret env_ok ?_
  refine ⟨.inr rfl, [(.pointer (some ⟨n, 0, some 0⟩))], (resL_cons rfl resL_nil), [(n, some ⟨[[(.slice none 0 0), (.int .i64 0)]], 2, 115, true⟩)], (Less.refl _ _ _), ⟨n, by omega, by omega, rfl, rfl⟩⟩

theorem nPut0 {n : Nat} {σ : Store} (hd : Dom n σ) (q : Nat) (a b : Int) (c g : BitVec 32) (e : ByteArray) (f : Bool) (hq : σ q = some ⟨[[(.slice none 0 0), (.int .i64 0)]], 2, 115, true⟩)  : CQ Try.prog noDen 28 [(.pointer (some ⟨q, 0, some 0⟩)), (.agg ⟨[(.int .i64 a), (.int .i64 b), (W c), (W g), (.string e), (.bool f)]⟩)] n σ (fun v n' d => ∃ i, n ≤ i ∧ i < n' ∧ v = .bool true ∧ d = [(q, some ⟨[[(.slice (some ⟨i, 0, none⟩) 1 0), (.int .i64 0)]], 2, 115, true⟩), (i, some ⟨[[(.int .i64 a), (.int .i64 b), (W c), (W g), (.string e), (.bool f)]], 6, 59, true⟩)]) := by
  have lhq := hd.lt hq
  refine CQ.body (E := env) env_ok hd rfl rfl (by show _ ≤ _; exact of_decide_eq_true (by kernel_rfl)) ?_
  refine RA.seq hd ?_
  refine RA.region env_ok ?_
  refine OA.op (dst := (some 3)) (v := (.pointer (some ⟨n, 0, some 0⟩))) (n1 := (n + 1)) (d1 := [(n, some ⟨[[(.int .i64 a), (.int .i64 b), (W c), (W g), (.string e), (.bool f)]], 6, 59, true⟩)]) (D' := [(n, some ⟨[[(.int .i64 a), (.int .i64 b), (W c), (W g), (.string e), (.bool f)]], 6, 59, true⟩)]) rfl rfl rfl rfl (by omega) rfl ?_
  refine OA.pure (dst := (some 4)) (v := (.bool false)) rfl rfl rfl rfl ?_
  refine OA.nil ?_
  intro _
  refine RA.seq hd ?_
  refine RA.seq hd ?_
  refine RA.region env_ok ?_
  refine OA.pure (dst := (some 5)) (v := (.pointer (some ⟨q, 0, some 0⟩))) rfl rfl rfl rfl ?_
  refine OA.pure (dst := (some 6)) (v := (.bool false)) rfl rfl rfl rfl ?_
  refine OA.nil ?_
  intro _
  refine RA.cond (t := false) rfl (fun hc => ?_) (fun hc => ?_)
  · cases hc
  ·
    refine RA.skip env_ok ?_
    intro _
    refine RA.seq hd ?_
    refine RA.seq hd ?_
    refine RA.region env_ok ?_
    refine OA.pure (dst := (some 7)) (v := (.pointer (some ⟨q, 0, some 0⟩))) rfl rfl rfl rfl ?_
    refine OA.pure (dst := (some 8)) (v := (.pointer (some ⟨q, 0, some 0⟩))) rfl rfl rfl rfl ?_
    refine OA.pure (dst := (some 9)) (v := (.pointer (some ⟨q, 0, some 0⟩))) rfl rfl rfl rfl ?_
    refine OA.pure (dst := (some 10)) (v := (.slice none 0 0)) rfl rfl rfl (r_load1 rfl rfl rfl rfl rfl (get_there (by omega) hq) rfl rfl) ?_
    refine OA.pure (dst := (some 11)) (v := (.int .i64 0)) rfl rfl rfl rfl ?_
    refine OA.pure (dst := (some 12)) (v := (.bool false)) rfl rfl rfl (r_bin rfl rfl rfl (b_geq rfl)) ?_
    refine OA.nil ?_
    intro _
    refine RA.cond (t := false) rfl (fun hc => ?_) (fun hc => ?_)
    · cases hc
    ·
      refine RA.skip env_ok ?_
      intro _
      refine RA.seq hd ?_
      refine RA.par (md := [some [], some [], some [], some [], some [q], some [n], some [], none, some [], some [], none]) env_ok (hd.of (by omega) (by intro i hi; simp only [keys, List.cons_append, List.nil_append, List.map_cons, List.map_nil, List.mem_cons, List.not_mem_nil, or_false, false_or] at hi; omega)) (by kernel_rfl) ?_
      refine PQ.pure (dst := (some 20)) (v := (.pointer (some ⟨q, 0, some 0⟩))) rfl rfl rfl noStore (none_ok _ _) rfl ?_
      refine PQ.pure (dst := (some 21)) (v := (.pointer (some ⟨q, 0, some 0⟩))) rfl rfl rfl noStore (none_ok _ _) rfl ?_
      refine PQ.pure (dst := (some 22)) (v := (.pointer (some ⟨q, 0, some 0⟩))) rfl rfl rfl noStore (none_ok _ _) rfl ?_
      refine PQ.pure (dst := (some 23)) (v := (.pointer (some ⟨q, 0, some 0⟩))) rfl rfl rfl noStore (none_ok _ _) rfl ?_
      refine PQ.pure (dst := (some 24)) (v := (.slice none 0 0)) rfl rfl rfl (app [(q, some ⟨[[(.slice none 0 0), (.int .i64 0)]], 2, 115, true⟩)] noStore) (seen_one (V := []) (D := [(n, some ⟨[[(.int .i64 a), (.int .i64 b), (W c), (W g), (.string e), (.bool f)]], 6, 59, true⟩)]) (by kernel_rfl) (get_there (by omega) hq)) (r_load1 rfl rfl rfl rfl rfl get_here rfl rfl) ?_
      refine PQ.pure (dst := (some 25)) (v := (.agg ⟨[(.int .i64 a), (.int .i64 b), (W c), (W g), (.string e), (.bool f)]⟩)) rfl rfl rfl (app [(n, some ⟨[[(.int .i64 a), (.int .i64 b), (W c), (W g), (.string e), (.bool f)]], 6, 59, true⟩)] noStore) (seen_one (V := []) (D := [(n, some ⟨[[(.int .i64 a), (.int .i64 b), (W c), (W g), (.string e), (.bool f)]], 6, 59, true⟩)]) (by kernel_rfl) get_here) (r_loadA rfl rfl rfl rfl get_here rfl rfl rfl) ?_
      refine PQ.op (dst := (some 26)) (v := (.slice (some ⟨(n + 1), 0, none⟩) 1 0)) (n1 := (n + 2)) (d1 := [((n + 1), some ⟨[[(.int .i64 a), (.int .i64 b), (W c), (W g), (.string e), (.bool f)]], 6, 59, true⟩)]) rfl rfl rfl noStore (none_ok _ _) (by kernel_rfl) (by omega) (fun x hx => by first | (simp only [keys, List.cons_append, List.nil_append, List.map_cons, List.map_nil, List.mem_cons, List.not_mem_nil, or_false, false_or] at hx; exact wr_new (by omega) (by omega)) | (simp only [keys, List.cons_append, List.nil_append, List.map_cons, List.map_nil, List.mem_cons, List.not_mem_nil, or_false, false_or] at hx; exact wr_old [0, 1, 2, 3, 4] (by kernel_rfl) (by omega) (by omega) (by intro i hi; simp only [List.mem_cons, List.not_mem_nil, or_false] at hi; rcases hi with rfl | rfl | rfl | rfl | rfl <;> exact ⟨_, rfl, by simp only [List.mem_cons, List.not_mem_nil, or_false, not_false_eq_true]; try omega⟩))) ?_
      refine PQ.op (dst := (some 27)) (v := (.slice (some ⟨(n + 2), 0, none⟩) 1 0)) (n1 := (n + 3)) (d1 := [((n + 2), some ⟨[[(.int .i64 a), (.int .i64 b), (W c), (W g), (.string e), (.bool f)]], 6, 59, true⟩)]) rfl rfl rfl (app [((n + 1), some ⟨[[(.int .i64 a), (.int .i64 b), (W c), (W g), (.string e), (.bool f)]], 6, 59, true⟩), (n, some ⟨[[(.int .i64 a), (.int .i64 b), (W c), (W g), (.string e), (.bool f)]], 6, 59, true⟩)] σ) (seen_any (V := [((n + 1), some ⟨[[(.int .i64 a), (.int .i64 b), (W c), (W g), (.string e), (.bool f)]], 6, 59, true⟩)]) (D := [(n, some ⟨[[(.int .i64 a), (.int .i64 b), (W c), (W g), (.string e), (.bool f)]], 6, 59, true⟩)]) (by kernel_rfl)) (r_append0 rfl rfl rfl rfl rfl rfl rfl rfl rfl rfl (by decide) get_here (of_decide_eq_true (by kernel_rfl))) (by omega) (fun x hx => by first | (simp only [keys, List.cons_append, List.nil_append, List.map_cons, List.map_nil, List.mem_cons, List.not_mem_nil, or_false, false_or] at hx; exact wr_new (by omega) (by omega)) | (simp only [keys, List.cons_append, List.nil_append, List.map_cons, List.map_nil, List.mem_cons, List.not_mem_nil, or_false, false_or] at hx; exact wr_old [0] (by kernel_rfl) (by omega) (by omega) (by intro i hi; simp only [List.mem_cons, List.not_mem_nil, or_false] at hi; rcases hi with rfl <;> exact ⟨_, rfl, by simp only [List.mem_cons, List.not_mem_nil, or_false, not_false_eq_true]; try omega⟩))) ?_
      refine PQ.pure (dst := (some 28)) (v := (.pointer (some ⟨q, 0, some 0⟩))) rfl rfl rfl noStore (none_ok _ _) rfl ?_
      refine PQ.pure (dst := (some 29)) (v := (.pointer (some ⟨q, 0, some 0⟩))) rfl rfl rfl noStore (none_ok _ _) rfl ?_
      refine PQ.op (dst := none) (v := (.tuple #[])) (n1 := (n + 3)) (d1 := [(q, some ⟨[[(.slice (some ⟨(n + 2), 0, none⟩) 1 0), (.int .i64 0)]], 2, 115, true⟩)]) rfl rfl rfl (app [((n + 2), some ⟨[[(.int .i64 a), (.int .i64 b), (W c), (W g), (.string e), (.bool f)]], 6, 59, true⟩), ((n + 1), some ⟨[[(.int .i64 a), (.int .i64 b), (W c), (W g), (.string e), (.bool f)]], 6, 59, true⟩), (n, some ⟨[[(.int .i64 a), (.int .i64 b), (W c), (W g), (.string e), (.bool f)]], 6, 59, true⟩)] σ) (seen_any (V := [((n + 2), some ⟨[[(.int .i64 a), (.int .i64 b), (W c), (W g), (.string e), (.bool f)]], 6, 59, true⟩), ((n + 1), some ⟨[[(.int .i64 a), (.int .i64 b), (W c), (W g), (.string e), (.bool f)]], 6, 59, true⟩)]) (D := [(n, some ⟨[[(.int .i64 a), (.int .i64 b), (W c), (W g), (.string e), (.bool f)]], 6, 59, true⟩)]) (by kernel_rfl)) (r_store rfl rfl rfl rfl rfl rfl rfl (get_there (by omega) (get_there (by omega) (get_there (by omega) hq))) rfl rfl (Nat.le_of_ble_eq_true rfl) rfl) (by omega) (fun x hx => by first | (simp only [keys, List.cons_append, List.nil_append, List.map_cons, List.map_nil, List.mem_cons, List.not_mem_nil, or_false, false_or] at hx; exact wr_new (by omega) (by omega)) | (exact wr_tight (by kernel_rfl) (by simp only [keys, List.cons_append, List.nil_append, List.map_cons, List.map_nil, List.mem_cons, List.not_mem_nil, or_false, false_or] at hx; omega))) ?_
      refine PQ.done (d := [(q, some ⟨[[(.slice (some ⟨(n + 2), 0, none⟩) 1 0), (.int .i64 0)]], 2, 115, true⟩), ((n + 2), some ⟨[[(.int .i64 a), (.int .i64 b), (W c), (W g), (.string e), (.bool f)]], 6, 59, true⟩), ((n + 1), some ⟨[[(.int .i64 a), (.int .i64 b), (W c), (W g), (.string e), (.bool f)]], 6, 59, true⟩)]) (by kernel_rfl) ?_
      intro _
      refine RA.seq hd ?_
      refine RA.region env_ok ?_
      refine OA.pure (dst := (some 4)) (v := (.bool true)) rfl rfl rfl rfl ?_
      refine OA.nil ?_
      intro _
      refine RA.ret env_ok ?_
      refine ⟨.inr rfl, [(.bool true)], (resL_cons rfl resL_nil), [(q, some ⟨[[(.slice (some ⟨(n + 2), 0, none⟩) 1 0), (.int .i64 0)]], 2, 115, true⟩), ((n + 2), some ⟨[[(.int .i64 a), (.int .i64 b), (W c), (W g), (.string e), (.bool f)]], 6, 59, true⟩)], (Less.of (by simp only [List.forall_mem_cons, List.not_mem_nil, false_imp_iff, implies_true, and_true]; exact ⟨⟨by simp only [keys, List.cons_append, List.nil_append, List.map_cons, List.map_nil, List.mem_cons, true_or, or_true], fun _ => (get_here).trans (get_here).symm⟩, ⟨by simp only [keys, List.cons_append, List.nil_append, List.map_cons, List.map_nil, List.mem_cons, true_or, or_true], fun _ => ((get_there (by omega) get_here)).trans ((get_there (by omega) get_here)).symm⟩⟩) (by intro x hx; simp only [keys, List.cons_append, List.nil_append, List.map_cons, List.map_nil, List.mem_cons, List.not_mem_nil, or_false, false_or] at hx ⊢; omega)), ⟨(n + 2), by omega, by omega, rfl, rfl⟩⟩

theorem nPut1 {n : Nat} {σ : Store} (hd : Dom n σ) (q j N : Nat) (l : List (List Value)) (hl : l.length = N) (hN : N < 300) (hqj : q ≠ j) (a b : Int) (c g : BitVec 32) (e : ByteArray) (f : Bool) (hq : σ q = some ⟨[[(.slice (some ⟨j, 0, none⟩) N 0), (.int .i64 0)]], 2, 115, true⟩) (hj : σ j = some ⟨l, 6, 59, true⟩)  : CQ Try.prog noDen 28 [(.pointer (some ⟨q, 0, some 0⟩)), (.agg ⟨[(.int .i64 a), (.int .i64 b), (W c), (W g), (.string e), (.bool f)]⟩)] n σ (fun v n' d => ∃ i, n ≤ i ∧ i < n' ∧ v = .bool true ∧ d = [(q, some ⟨[[(.slice (some ⟨i, 0, none⟩) (N + 1) 0), (.int .i64 0)]], 2, 115, true⟩), (i, some ⟨(l ++ [[(.int .i64 a), (.int .i64 b), (W c), (W g), (.string e), (.bool f)]]), 6, 59, true⟩), (j, none)]) := by
  have lhq := hd.lt hq
  have lhj := hd.lt hj
  refine CQ.body (E := env) env_ok hd rfl rfl (by show _ ≤ _; exact of_decide_eq_true (by kernel_rfl)) ?_
  refine RA.seq hd ?_
  refine RA.region env_ok ?_
  refine OA.op (dst := (some 3)) (v := (.pointer (some ⟨n, 0, some 0⟩))) (n1 := (n + 1)) (d1 := [(n, some ⟨[[(.int .i64 a), (.int .i64 b), (W c), (W g), (.string e), (.bool f)]], 6, 59, true⟩)]) (D' := [(n, some ⟨[[(.int .i64 a), (.int .i64 b), (W c), (W g), (.string e), (.bool f)]], 6, 59, true⟩)]) rfl rfl rfl rfl (by omega) rfl ?_
  refine OA.pure (dst := (some 4)) (v := (.bool false)) rfl rfl rfl rfl ?_
  refine OA.nil ?_
  intro _
  refine RA.seq hd ?_
  refine RA.seq hd ?_
  refine RA.region env_ok ?_
  refine OA.pure (dst := (some 5)) (v := (.pointer (some ⟨q, 0, some 0⟩))) rfl rfl rfl rfl ?_
  refine OA.pure (dst := (some 6)) (v := (.bool false)) rfl rfl rfl rfl ?_
  refine OA.nil ?_
  intro _
  refine RA.cond (t := false) rfl (fun hc => ?_) (fun hc => ?_)
  · cases hc
  ·
    refine RA.skip env_ok ?_
    intro _
    refine RA.seq hd ?_
    refine RA.seq hd ?_
    refine RA.region env_ok ?_
    refine OA.pure (dst := (some 7)) (v := (.pointer (some ⟨q, 0, some 0⟩))) rfl rfl rfl rfl ?_
    refine OA.pure (dst := (some 8)) (v := (.pointer (some ⟨q, 0, some 0⟩))) rfl rfl rfl rfl ?_
    refine OA.pure (dst := (some 9)) (v := (.pointer (some ⟨q, 0, some 0⟩))) rfl rfl rfl rfl ?_
    refine OA.pure (dst := (some 10)) (v := (.slice (some ⟨j, 0, none⟩) N 0)) rfl rfl rfl (r_load1 rfl rfl rfl rfl rfl (get_there (by omega) hq) rfl rfl) ?_
    refine OA.pure (dst := (some 11)) (v := (.int .i64 ((N : Nat) : Int))) rfl rfl rfl rfl ?_
    by_cases hc1 : 300 ≤ ((N : Nat) : Int)
    · exfalso; omega
    ·
      refine OA.pure (dst := (some 12)) (v := (.bool false)) rfl rfl rfl (Eq.trans (r_bin rfl rfl rfl (b_geq rfl)) (by first | (rw [decide_eq_false hc1]; done) | (rw [decide_eq_false hc1]; rfl))) ?_
      refine OA.nil ?_
      intro _
      refine RA.cond (t := false) rfl (fun hc => ?_) (fun hc => ?_)
      · cases hc
      ·
        refine RA.skip env_ok ?_
        intro _
        refine RA.seq hd ?_
        refine RA.par (md := [some [], some [], some [], some [], some [q], some [n], some [], none, some [], some [], none]) env_ok (hd.of (by omega) (by intro i hi; simp only [keys, List.cons_append, List.nil_append, List.map_cons, List.map_nil, List.mem_cons, List.not_mem_nil, or_false, false_or] at hi; omega)) (by kernel_rfl) ?_
        refine PQ.pure (dst := (some 20)) (v := (.pointer (some ⟨q, 0, some 0⟩))) rfl rfl rfl noStore (none_ok _ _) rfl ?_
        refine PQ.pure (dst := (some 21)) (v := (.pointer (some ⟨q, 0, some 0⟩))) rfl rfl rfl noStore (none_ok _ _) rfl ?_
        refine PQ.pure (dst := (some 22)) (v := (.pointer (some ⟨q, 0, some 0⟩))) rfl rfl rfl noStore (none_ok _ _) rfl ?_
        refine PQ.pure (dst := (some 23)) (v := (.pointer (some ⟨q, 0, some 0⟩))) rfl rfl rfl noStore (none_ok _ _) rfl ?_
        refine PQ.pure (dst := (some 24)) (v := (.slice (some ⟨j, 0, none⟩) N 0)) rfl rfl rfl (app [(q, some ⟨[[(.slice (some ⟨j, 0, none⟩) N 0), (.int .i64 0)]], 2, 115, true⟩)] noStore) (seen_one (V := []) (D := [(n, some ⟨[[(.int .i64 a), (.int .i64 b), (W c), (W g), (.string e), (.bool f)]], 6, 59, true⟩)]) (by kernel_rfl) (get_there (by omega) hq)) (r_load1 rfl rfl rfl rfl rfl get_here rfl rfl) ?_
        refine PQ.pure (dst := (some 25)) (v := (.agg ⟨[(.int .i64 a), (.int .i64 b), (W c), (W g), (.string e), (.bool f)]⟩)) rfl rfl rfl (app [(n, some ⟨[[(.int .i64 a), (.int .i64 b), (W c), (W g), (.string e), (.bool f)]], 6, 59, true⟩)] noStore) (seen_one (V := []) (D := [(n, some ⟨[[(.int .i64 a), (.int .i64 b), (W c), (W g), (.string e), (.bool f)]], 6, 59, true⟩)]) (by kernel_rfl) get_here) (r_loadA rfl rfl rfl rfl get_here rfl rfl rfl) ?_
        refine PQ.op (dst := (some 26)) (v := (.slice (some ⟨(n + 1), 0, none⟩) 1 0)) (n1 := (n + 2)) (d1 := [((n + 1), some ⟨[[(.int .i64 a), (.int .i64 b), (W c), (W g), (.string e), (.bool f)]], 6, 59, true⟩)]) rfl rfl rfl noStore (none_ok _ _) (by kernel_rfl) (by omega) (fun x hx => by first | (simp only [keys, List.cons_append, List.nil_append, List.map_cons, List.map_nil, List.mem_cons, List.not_mem_nil, or_false, false_or] at hx; exact wr_new (by omega) (by omega)) | (simp only [keys, List.cons_append, List.nil_append, List.map_cons, List.map_nil, List.mem_cons, List.not_mem_nil, or_false, false_or] at hx; exact wr_old [0, 1, 2, 3, 4] (by kernel_rfl) (by omega) (by omega) (by intro i hi; simp only [List.mem_cons, List.not_mem_nil, or_false] at hi; rcases hi with rfl | rfl | rfl | rfl | rfl <;> exact ⟨_, rfl, by simp only [List.mem_cons, List.not_mem_nil, or_false, not_false_eq_true]; try omega⟩))) ?_
        refine PQ.op (dst := (some 27)) (v := (.slice (some ⟨(n + 2), 0, none⟩) (N + 1) 0)) (n1 := (n + 3)) (d1 := [((n + 2), some ⟨(l ++ [[(.int .i64 a), (.int .i64 b), (W c), (W g), (.string e), (.bool f)]]), 6, 59, true⟩), (j, none)]) rfl rfl rfl (app [((n + 1), some ⟨[[(.int .i64 a), (.int .i64 b), (W c), (W g), (.string e), (.bool f)]], 6, 59, true⟩), (n, some ⟨[[(.int .i64 a), (.int .i64 b), (W c), (W g), (.string e), (.bool f)]], 6, 59, true⟩)] σ) (seen_any (V := [((n + 1), some ⟨[[(.int .i64 a), (.int .i64 b), (W c), (W g), (.string e), (.bool f)]], 6, 59, true⟩)]) (D := [(n, some ⟨[[(.int .i64 a), (.int .i64 b), (W c), (W g), (.string e), (.bool f)]], 6, 59, true⟩)]) (by kernel_rfl)) (r_append rfl rfl rfl rfl rfl rfl rfl rfl rfl rfl (by decide) (get_there (by omega) (get_there (by omega) hj)) get_here (by first | exact hl | (rw [hl])) (by omega) (of_decide_eq_true (by kernel_rfl)) rfl) (by omega) (fun x hx => by simp only [keys, List.cons_append, List.nil_append, List.map_cons, List.map_nil, List.mem_cons, List.not_mem_nil, or_false, false_or] at hx; rcases hx with rfl | rfl <;> first | exact wr_new (by omega) (by omega) | exact wr_old [0] (by kernel_rfl) (by omega) (by omega) (by intro i hi; simp only [List.mem_cons, List.not_mem_nil, or_false] at hi; rcases hi with rfl <;> exact ⟨_, rfl, by simp only [List.mem_cons, List.not_mem_nil, or_false, not_false_eq_true]; try omega⟩)) ?_
        refine PQ.pure (dst := (some 28)) (v := (.pointer (some ⟨q, 0, some 0⟩))) rfl rfl rfl noStore (none_ok _ _) rfl ?_
        refine PQ.pure (dst := (some 29)) (v := (.pointer (some ⟨q, 0, some 0⟩))) rfl rfl rfl noStore (none_ok _ _) rfl ?_
        refine PQ.op (dst := none) (v := (.tuple #[])) (n1 := (n + 3)) (d1 := [(q, some ⟨[[(.slice (some ⟨(n + 2), 0, none⟩) (N + 1) 0), (.int .i64 0)]], 2, 115, true⟩)]) rfl rfl rfl (app [((n + 2), some ⟨(l ++ [[(.int .i64 a), (.int .i64 b), (W c), (W g), (.string e), (.bool f)]]), 6, 59, true⟩), (j, none), ((n + 1), some ⟨[[(.int .i64 a), (.int .i64 b), (W c), (W g), (.string e), (.bool f)]], 6, 59, true⟩), (n, some ⟨[[(.int .i64 a), (.int .i64 b), (W c), (W g), (.string e), (.bool f)]], 6, 59, true⟩)] σ) (seen_any (V := [((n + 2), some ⟨(l ++ [[(.int .i64 a), (.int .i64 b), (W c), (W g), (.string e), (.bool f)]]), 6, 59, true⟩), (j, none), ((n + 1), some ⟨[[(.int .i64 a), (.int .i64 b), (W c), (W g), (.string e), (.bool f)]], 6, 59, true⟩)]) (D := [(n, some ⟨[[(.int .i64 a), (.int .i64 b), (W c), (W g), (.string e), (.bool f)]], 6, 59, true⟩)]) (by kernel_rfl)) (r_store rfl rfl rfl rfl rfl rfl rfl (get_there (by omega) (get_there (by omega) (get_there (by omega) (get_there (by omega) hq)))) rfl rfl (Nat.le_of_ble_eq_true rfl) rfl) (by omega) (fun x hx => by first | (simp only [keys, List.cons_append, List.nil_append, List.map_cons, List.map_nil, List.mem_cons, List.not_mem_nil, or_false, false_or] at hx; exact wr_new (by omega) (by omega)) | (exact wr_tight (by kernel_rfl) (by simp only [keys, List.cons_append, List.nil_append, List.map_cons, List.map_nil, List.mem_cons, List.not_mem_nil, or_false, false_or] at hx; omega))) ?_
        refine PQ.done (d := [(q, some ⟨[[(.slice (some ⟨(n + 2), 0, none⟩) (N + 1) 0), (.int .i64 0)]], 2, 115, true⟩), ((n + 2), some ⟨(l ++ [[(.int .i64 a), (.int .i64 b), (W c), (W g), (.string e), (.bool f)]]), 6, 59, true⟩), (j, none), ((n + 1), some ⟨[[(.int .i64 a), (.int .i64 b), (W c), (W g), (.string e), (.bool f)]], 6, 59, true⟩)]) (by kernel_rfl) ?_
        intro _
        refine RA.seq hd ?_
        refine RA.region env_ok ?_
        refine OA.pure (dst := (some 4)) (v := (.bool true)) rfl rfl rfl rfl ?_
        refine OA.nil ?_
        intro _
        refine RA.ret env_ok ?_
        refine ⟨.inr rfl, [(.bool true)], (resL_cons rfl resL_nil), [(q, some ⟨[[(.slice (some ⟨(n + 2), 0, none⟩) (N + 1) 0), (.int .i64 0)]], 2, 115, true⟩), ((n + 2), some ⟨(l ++ [[(.int .i64 a), (.int .i64 b), (W c), (W g), (.string e), (.bool f)]]), 6, 59, true⟩), (j, none)], (Less.of (by simp only [List.forall_mem_cons, List.not_mem_nil, false_imp_iff, implies_true, and_true]; exact ⟨⟨by simp only [keys, List.cons_append, List.nil_append, List.map_cons, List.map_nil, List.mem_cons, true_or, or_true], fun _ => (get_here).trans (get_here).symm⟩, ⟨by simp only [keys, List.cons_append, List.nil_append, List.map_cons, List.map_nil, List.mem_cons, true_or, or_true], fun _ => ((get_there (by omega) get_here)).trans ((get_there (by omega) get_here)).symm⟩, ⟨by simp only [keys, List.cons_append, List.nil_append, List.map_cons, List.map_nil, List.mem_cons, true_or, or_true], fun _ => ((get_there (by omega) (get_there (by omega) get_here))).trans ((get_there (by omega) (get_there (by omega) get_here))).symm⟩⟩) (by intro x hx; simp only [keys, List.cons_append, List.nil_append, List.map_cons, List.map_nil, List.mem_cons, List.not_mem_nil, or_false, false_or] at hx ⊢; omega)), ⟨(n + 2), by omega, by omega, rfl, rfl⟩⟩

theorem nPut2 {n : Nat} {σ : Store} (hd : Dom n σ) (q j full : Nat) (hf : full < 1000000) (a b : Int) (c g : BitVec 32) (e : ByteArray) (f : Bool) (hq : σ q = some ⟨[[(.slice (some ⟨j, 0, none⟩) 300 0), (.int .i64 ((full : Nat) : Int))]], 2, 115, true⟩)  : CQ Try.prog noDen 28 [(.pointer (some ⟨q, 0, some 0⟩)), (.agg ⟨[(.int .i64 a), (.int .i64 b), (W c), (W g), (.string e), (.bool f)]⟩)] n σ (fun v n' d => v = .bool false ∧ d = [(q, some ⟨[[(.slice (some ⟨j, 0, none⟩) 300 0), (.int .i64 (((full + 1) : Nat) : Int))]], 2, 115, true⟩)]) := by
  have lhq := hd.lt hq
  refine CQ.body (E := env) env_ok hd rfl rfl (by show _ ≤ _; exact of_decide_eq_true (by kernel_rfl)) ?_
  refine RA.seq hd ?_
  refine RA.region env_ok ?_
  refine OA.op (dst := (some 3)) (v := (.pointer (some ⟨n, 0, some 0⟩))) (n1 := (n + 1)) (d1 := [(n, some ⟨[[(.int .i64 a), (.int .i64 b), (W c), (W g), (.string e), (.bool f)]], 6, 59, true⟩)]) (D' := [(n, some ⟨[[(.int .i64 a), (.int .i64 b), (W c), (W g), (.string e), (.bool f)]], 6, 59, true⟩)]) rfl rfl rfl rfl (by omega) rfl ?_
  refine OA.pure (dst := (some 4)) (v := (.bool false)) rfl rfl rfl rfl ?_
  refine OA.nil ?_
  intro _
  refine RA.seq hd ?_
  refine RA.seq hd ?_
  refine RA.region env_ok ?_
  refine OA.pure (dst := (some 5)) (v := (.pointer (some ⟨q, 0, some 0⟩))) rfl rfl rfl rfl ?_
  refine OA.pure (dst := (some 6)) (v := (.bool false)) rfl rfl rfl rfl ?_
  refine OA.nil ?_
  intro _
  refine RA.cond (t := false) rfl (fun hc => ?_) (fun hc => ?_)
  · cases hc
  ·
    refine RA.skip env_ok ?_
    intro _
    refine RA.seq hd ?_
    refine RA.seq hd ?_
    refine RA.region env_ok ?_
    refine OA.pure (dst := (some 7)) (v := (.pointer (some ⟨q, 0, some 0⟩))) rfl rfl rfl rfl ?_
    refine OA.pure (dst := (some 8)) (v := (.pointer (some ⟨q, 0, some 0⟩))) rfl rfl rfl rfl ?_
    refine OA.pure (dst := (some 9)) (v := (.pointer (some ⟨q, 0, some 0⟩))) rfl rfl rfl rfl ?_
    refine OA.pure (dst := (some 10)) (v := (.slice (some ⟨j, 0, none⟩) 300 0)) rfl rfl rfl (r_load1 rfl rfl rfl rfl rfl (get_there (by omega) hq) rfl rfl) ?_
    refine OA.pure (dst := (some 11)) (v := (.int .i64 300)) rfl rfl rfl rfl ?_
    refine OA.pure (dst := (some 12)) (v := (.bool true)) rfl rfl rfl (r_bin rfl rfl rfl (b_geq rfl)) ?_
    refine OA.nil ?_
    intro _
    refine RA.cond (t := true) rfl (fun hc => ?_) (fun hc => ?_)
    ·
      refine RA.seq hd ?_
      refine RA.region env_ok ?_
      refine OA.pure (dst := (some 13)) (v := (.pointer (some ⟨q, 0, some 0⟩))) rfl rfl rfl rfl ?_
      refine OA.pure (dst := (some 14)) (v := (.pointer (some ⟨q, 0, some 0⟩))) rfl rfl rfl rfl ?_
      refine OA.pure (dst := (some 15)) (v := (.pointer (some ⟨q, 0, some 1⟩))) rfl rfl rfl rfl ?_
      refine OA.pure (dst := (some 16)) (v := (.int .i64 ((full : Nat) : Int))) rfl rfl rfl (r_load1 rfl rfl rfl rfl rfl (get_there (by omega) hq) rfl rfl) ?_
      refine OA.pure (dst := (some 17)) (v := (.int .i64 (((full + 1) : Nat) : Int))) rfl rfl rfl (r_bin rfl rfl rfl (b_add (i64_eq (by omega)))) ?_
      refine OA.pure (dst := (some 18)) (v := (.pointer (some ⟨q, 0, some 0⟩))) rfl rfl rfl rfl ?_
      refine OA.pure (dst := (some 19)) (v := (.pointer (some ⟨q, 0, some 1⟩))) rfl rfl rfl rfl ?_
      refine OA.op (dst := none) (v := (.tuple #[])) (n1 := (n + 1)) (d1 := [(q, some ⟨[[(.slice (some ⟨j, 0, none⟩) 300 0), (.int .i64 (((full + 1) : Nat) : Int))]], 2, 115, true⟩)]) (D' := [(q, some ⟨[[(.slice (some ⟨j, 0, none⟩) 300 0), (.int .i64 (((full + 1) : Nat) : Int))]], 2, 115, true⟩), (n, some ⟨[[(.int .i64 a), (.int .i64 b), (W c), (W g), (.string e), (.bool f)]], 6, 59, true⟩)]) rfl rfl rfl (r_store rfl rfl rfl rfl rfl rfl rfl (get_there (by omega) hq) rfl rfl (Nat.le_of_ble_eq_true rfl) rfl) (by omega) rfl ?_
      refine OA.nil ?_
      intro _
      refine RA.seq hd ?_
      refine RA.region env_ok ?_
      refine OA.pure (dst := (some 4)) (v := (.bool false)) rfl rfl rfl rfl ?_
      refine OA.nil ?_
      intro _
      refine RA.ret env_ok ?_
      refine ⟨.inr rfl, [(.bool false)], (resL_cons rfl resL_nil), [(q, some ⟨[[(.slice (some ⟨j, 0, none⟩) 300 0), (.int .i64 (((full + 1) : Nat) : Int))]], 2, 115, true⟩)], (Less.of (by simp only [List.forall_mem_cons, List.not_mem_nil, false_imp_iff, implies_true, and_true]; exact ⟨by simp only [keys, List.cons_append, List.nil_append, List.map_cons, List.map_nil, List.mem_cons, true_or, or_true], fun _ => (get_here).trans (get_here).symm⟩) (by intro x hx; simp only [keys, List.cons_append, List.nil_append, List.map_cons, List.map_nil, List.mem_cons, List.not_mem_nil, or_false, false_or] at hx ⊢; omega)), ⟨rfl, rfl⟩⟩
    · cases hc

theorem nPut2z {n : Nat} {σ : Store} (hd : Dom n σ) (q j full : Nat) (hf : full < 1000000) (hq : σ q = some ⟨[[(.slice (some ⟨j, 0, none⟩) 300 0), (.int .i64 ((full : Nat) : Int))]], 2, 115, true⟩)  : CQ Try.prog noDen 28 [(.pointer (some ⟨q, 0, some 0⟩)), (.agg ⟨[(.int .i64 0), (.int .i64 0), (.int .u32 0), (.int .u32 0), (.string ByteArray.empty), (.bool false)]⟩)] n σ (fun v n' d => v = .bool false ∧ d = [(q, some ⟨[[(.slice (some ⟨j, 0, none⟩) 300 0), (.int .i64 (((full + 1) : Nat) : Int))]], 2, 115, true⟩)]) := by
  have lhq := hd.lt hq
  refine CQ.body (E := env) env_ok hd rfl rfl (by show _ ≤ _; exact of_decide_eq_true (by kernel_rfl)) ?_
  refine RA.seq hd ?_
  refine RA.region env_ok ?_
  refine OA.op (dst := (some 3)) (v := (.pointer (some ⟨n, 0, some 0⟩))) (n1 := (n + 1)) (d1 := [(n, some ⟨[[(.int .i64 0), (.int .i64 0), (.int .u32 0), (.int .u32 0), (.string ByteArray.empty), (.bool false)]], 6, 59, true⟩)]) (D' := [(n, some ⟨[[(.int .i64 0), (.int .i64 0), (.int .u32 0), (.int .u32 0), (.string ByteArray.empty), (.bool false)]], 6, 59, true⟩)]) rfl rfl rfl rfl (by omega) rfl ?_
  refine OA.pure (dst := (some 4)) (v := (.bool false)) rfl rfl rfl rfl ?_
  refine OA.nil ?_
  intro _
  refine RA.seq hd ?_
  refine RA.seq hd ?_
  refine RA.region env_ok ?_
  refine OA.pure (dst := (some 5)) (v := (.pointer (some ⟨q, 0, some 0⟩))) rfl rfl rfl rfl ?_
  refine OA.pure (dst := (some 6)) (v := (.bool false)) rfl rfl rfl rfl ?_
  refine OA.nil ?_
  intro _
  refine RA.cond (t := false) rfl (fun hc => ?_) (fun hc => ?_)
  · cases hc
  ·
    refine RA.skip env_ok ?_
    intro _
    refine RA.seq hd ?_
    refine RA.seq hd ?_
    refine RA.region env_ok ?_
    refine OA.pure (dst := (some 7)) (v := (.pointer (some ⟨q, 0, some 0⟩))) rfl rfl rfl rfl ?_
    refine OA.pure (dst := (some 8)) (v := (.pointer (some ⟨q, 0, some 0⟩))) rfl rfl rfl rfl ?_
    refine OA.pure (dst := (some 9)) (v := (.pointer (some ⟨q, 0, some 0⟩))) rfl rfl rfl rfl ?_
    refine OA.pure (dst := (some 10)) (v := (.slice (some ⟨j, 0, none⟩) 300 0)) rfl rfl rfl (r_load1 rfl rfl rfl rfl rfl (get_there (by omega) hq) rfl rfl) ?_
    refine OA.pure (dst := (some 11)) (v := (.int .i64 300)) rfl rfl rfl rfl ?_
    refine OA.pure (dst := (some 12)) (v := (.bool true)) rfl rfl rfl (r_bin rfl rfl rfl (b_geq rfl)) ?_
    refine OA.nil ?_
    intro _
    refine RA.cond (t := true) rfl (fun hc => ?_) (fun hc => ?_)
    ·
      refine RA.seq hd ?_
      refine RA.region env_ok ?_
      refine OA.pure (dst := (some 13)) (v := (.pointer (some ⟨q, 0, some 0⟩))) rfl rfl rfl rfl ?_
      refine OA.pure (dst := (some 14)) (v := (.pointer (some ⟨q, 0, some 0⟩))) rfl rfl rfl rfl ?_
      refine OA.pure (dst := (some 15)) (v := (.pointer (some ⟨q, 0, some 1⟩))) rfl rfl rfl rfl ?_
      refine OA.pure (dst := (some 16)) (v := (.int .i64 ((full : Nat) : Int))) rfl rfl rfl (r_load1 rfl rfl rfl rfl rfl (get_there (by omega) hq) rfl rfl) ?_
      refine OA.pure (dst := (some 17)) (v := (.int .i64 (((full + 1) : Nat) : Int))) rfl rfl rfl (r_bin rfl rfl rfl (b_add (i64_eq (by omega)))) ?_
      refine OA.pure (dst := (some 18)) (v := (.pointer (some ⟨q, 0, some 0⟩))) rfl rfl rfl rfl ?_
      refine OA.pure (dst := (some 19)) (v := (.pointer (some ⟨q, 0, some 1⟩))) rfl rfl rfl rfl ?_
      refine OA.op (dst := none) (v := (.tuple #[])) (n1 := (n + 1)) (d1 := [(q, some ⟨[[(.slice (some ⟨j, 0, none⟩) 300 0), (.int .i64 (((full + 1) : Nat) : Int))]], 2, 115, true⟩)]) (D' := [(q, some ⟨[[(.slice (some ⟨j, 0, none⟩) 300 0), (.int .i64 (((full + 1) : Nat) : Int))]], 2, 115, true⟩), (n, some ⟨[[(.int .i64 0), (.int .i64 0), (.int .u32 0), (.int .u32 0), (.string ByteArray.empty), (.bool false)]], 6, 59, true⟩)]) rfl rfl rfl (r_store rfl rfl rfl rfl rfl rfl rfl (get_there (by omega) hq) rfl rfl (Nat.le_of_ble_eq_true rfl) rfl) (by omega) rfl ?_
      refine OA.nil ?_
      intro _
      refine RA.seq hd ?_
      refine RA.region env_ok ?_
      refine OA.pure (dst := (some 4)) (v := (.bool false)) rfl rfl rfl rfl ?_
      refine OA.nil ?_
      intro _
      refine RA.ret env_ok ?_
      refine ⟨.inr rfl, [(.bool false)], (resL_cons rfl resL_nil), [(q, some ⟨[[(.slice (some ⟨j, 0, none⟩) 300 0), (.int .i64 (((full + 1) : Nat) : Int))]], 2, 115, true⟩)], (Less.of (by simp only [List.forall_mem_cons, List.not_mem_nil, false_imp_iff, implies_true, and_true]; exact ⟨by simp only [keys, List.cons_append, List.nil_append, List.map_cons, List.map_nil, List.mem_cons, true_or, or_true], fun _ => (get_here).trans (get_here).symm⟩) (by intro x hx; simp only [keys, List.cons_append, List.nil_append, List.map_cons, List.map_nil, List.mem_cons, List.not_mem_nil, or_false, false_or] at hx ⊢; omega)), ⟨rfl, rfl⟩⟩
    · cases hc
end Go.Proofs.Ytnjknabighmedaa.Vt
