/- Ng: walks through functions of the program, by the calculus; written by a program of this workplace. -/
import Derived.Test.YtnjknabighmedaaNf
namespace Go.Proofs.Ytnjknabighmedaa.Vt
open Go Go.Proofs Go.Proofs.YtnjknabighmedaaV
set_option maxRecDepth 100000
set_option linter.unusedVariables false
set_option linter.unusedSimpArgs false
def itm (i : Nat) : List Value := [.int .i64 0, .int .i64 ((i : Nat) : Int), .int .u32 0, .int .u32 0, .string ByteArray.empty, .bool false]
def rowN (N : Nat) : List (List Value) := (List.range N).map itm
theorem rowN_len (N : Nat) : (rowN N).length = N := by rw [rowN, List.length_map, List.length_range]
theorem rowN_succ (N : Nat) : rowN (N + 1) = rowN N ++ [itm N] := by rw [rowN, rowN, List.range_succ, List.map_append]; rfl
theorem nDouble {n : Nat} {σ : Store} (hd : Dom n σ) (q j full : Nat) (hf : full < 1000000) (hqj : q ≠ j) (hq : σ q = some ⟨[[(.slice (some ⟨j, 0, none⟩) 300 0), (.int .i64 ((full : Nat) : Int))]], 2, 115, true⟩) (hj : σ j = some ⟨(rowN 300), 6, 59, true⟩)  : CQ Try.prog noDen 29 [(.pointer (some ⟨q, 0, some 0⟩)), (.int .i64 0)] n σ (fun v n' d => v = .bool false ∧ d = [(q, some ⟨[[(.slice (some ⟨j, 0, none⟩) 300 0), (.int .i64 (((full + 1) : Nat) : Int))]], 2, 115, true⟩)]) := by
  have lhq := hd.lt hq
  have lhj := hd.lt hj
  refine CQ.body (E := env) env_ok hd rfl rfl (by show _ ≤ _; exact of_decide_eq_true (by kernel_rfl)) ?_
  refine RA.seq hd ?_
  refine RA.region env_ok ?_
  refine OA.pure (dst := (some 4)) (v := (.bool false)) rfl rfl rfl rfl ?_
  refine OA.nil ?_
  intro _
  refine RA.seq hd ?_
  refine RA.seq hd ?_
  refine RA.region env_ok ?_
  refine OA.pure (dst := (some 5)) (v := (.pointer (some ⟨q, 0, some 0⟩))) rfl rfl rfl rfl ?_
  refine OA.pure (dst := (some 6)) (v := (.bool false)) rfl rfl rfl rfl ?_
  refine OA.pure (dst := (some 7)) (v := (.bool false)) rfl rfl rfl rfl ?_
  refine OA.pure (dst := (some 8)) (v := (.int .i64 0)) rfl rfl rfl rfl ?_
  refine OA.pure (dst := (some 9)) (v := (.bool false)) rfl rfl rfl (r_bin rfl rfl rfl (b_lss rfl)) ?_
  refine OA.pure (dst := (some 10)) (v := (.bool false)) rfl rfl rfl rfl ?_
  refine OA.pure (dst := (some 11)) (v := (.bool false)) rfl rfl rfl rfl ?_
  refine OA.pure (dst := (some 12)) (v := (.int .i64 0)) rfl rfl rfl rfl ?_
  refine OA.pure (dst := (some 13)) (v := (.pointer (some ⟨q, 0, some 0⟩))) rfl rfl rfl rfl ?_
  refine OA.pure (dst := (some 14)) (v := (.pointer (some ⟨q, 0, some 0⟩))) rfl rfl rfl rfl ?_
  refine OA.pure (dst := (some 15)) (v := (.pointer (some ⟨q, 0, some 0⟩))) rfl rfl rfl rfl ?_
  refine OA.pure (dst := (some 16)) (v := (.slice (some ⟨j, 0, none⟩) 300 0)) rfl rfl rfl (r_load1 rfl rfl rfl rfl rfl hq rfl rfl) ?_
  refine OA.pure (dst := (some 17)) (v := (.int .i64 300)) rfl rfl rfl rfl ?_
  refine OA.pure (dst := (some 18)) (v := (.bool false)) rfl rfl rfl (r_bin rfl rfl rfl (b_geq rfl)) ?_
  refine OA.pure (dst := (some 19)) (v := (.bool false)) rfl rfl rfl rfl ?_
  refine OA.nil ?_
  intro _
  refine RA.cond (t := false) rfl (fun hc => ?_) (fun hc => ?_)
  · cases hc
  ·
    refine RA.skip env_ok ?_
    intro _
    refine RA.seq hd ?_
    refine RA.region env_ok ?_
    refine OA.pure (dst := (some 20)) (v := (.pointer (some ⟨q, 0, some 0⟩))) rfl rfl rfl rfl ?_
    refine OA.pure (dst := (some 21)) (v := (.pointer (some ⟨q, 0, some 0⟩))) rfl rfl rfl rfl ?_
    refine OA.pure (dst := (some 22)) (v := (.pointer (some ⟨q, 0, some 0⟩))) rfl rfl rfl rfl ?_
    refine OA.pure (dst := (some 23)) (v := (.pointer (some ⟨q, 0, some 0⟩))) rfl rfl rfl rfl ?_
    refine OA.pure (dst := (some 24)) (v := (.slice (some ⟨j, 0, none⟩) 300 0)) rfl rfl rfl (r_load1 rfl rfl rfl rfl rfl hq rfl rfl) ?_
    refine OA.pure (dst := (some 25)) (v := (.int .i64 0)) rfl rfl rfl rfl ?_
    refine OA.pure (dst := (some 26)) (v := (.pointer (some ⟨j, 0, some 0⟩))) rfl rfl rfl (r_iaS (l := 0) rfl rfl rfl rfl rfl rfl (by omega) (by omega) hj rfl (by omega)) ?_
    refine OA.pure (dst := (some 27)) (v := (.agg ⟨[(.int .i64 0), (.int .i64 0), (.int .u32 0), (.int .u32 0), (.string ByteArray.empty), (.bool false)]⟩)) rfl rfl rfl (r_loadA (e := [(.int .i64 0), (.int .i64 0), (.int .u32 0), (.int .u32 0), (.string ByteArray.empty), (.bool false)]) rfl rfl rfl rfl hj (by kernel_rfl) rfl rfl) ?_
    refine OA.call (dst := (some 28)) (all := [(.pointer (some ⟨q, 0, some 0⟩)), (.agg ⟨[(.int .i64 0), (.int .i64 0), (.int .u32 0), (.int .u32 0), (.string ByteArray.empty), (.bool false)]⟩)]) rfl rfl rfl rfl rfl rfl rfl rfl (CQ.imp (nPut2z (hd.up (by omega)) q j full hf hq) ?_)
    rintro _ n1 _ ⟨rfl, rfl⟩ hn1
    show OA _ _ _ _ _ _ _ _ [(q, some ⟨[[(.slice (some ⟨j, 0, none⟩) 300 0), (.int .i64 (((full + 1) : Nat) : Int))]], 2, 115, true⟩)] _
    refine OA.pure (dst := (some 4)) (v := (.bool false)) rfl rfl rfl rfl ?_
    refine OA.nil ?_
    intro _
    refine RA.rebase [(0, (.pointer (some ⟨q, 0, some 0⟩))), (1, (.int .i64 0)), (4, (.bool false)), (19, (.bool false))] ⟨rfl, rfl, rfl, rfl, trivial⟩ (fun τr2 => ?_)
    refine RA.ret env_ok ?_
    refine ⟨.inr rfl, [(.bool false)], (resL_cons rfl resL_nil), [(q, some ⟨[[(.slice (some ⟨j, 0, none⟩) 300 0), (.int .i64 (((full + 1) : Nat) : Int))]], 2, 115, true⟩)], (Less.refl _ _ _), ⟨rfl, rfl⟩⟩

theorem nLen {σ : Store} (q j full : Nat) (hq : σ q = some ⟨[[(.slice (some ⟨j, 0, none⟩) 300 0), (.int .i64 ((full : Nat) : Int))]], 2, 115, true⟩)  : PS Try.prog noDen 31 [(.pointer (some ⟨q, 0, some 0⟩))] σ (.int .i64 300) := by
  refine PS.body (E := env) env_ok rfl rfl (by show _ ≤ _; exact of_decide_eq_true (by kernel_rfl)) (fun n hd => ?_)
  have lhq := hd.lt hq
  refine RA.seq hd ?_
  refine RA.region env_ok ?_
  refine OA.pure (dst := (some 2)) (v := (.int .i64 0)) rfl rfl rfl rfl ?_
  refine OA.nil ?_
  intro _
  refine RA.seq hd ?_
  refine RA.seq hd ?_
  refine RA.region env_ok ?_
  refine OA.pure (dst := (some 3)) (v := (.pointer (some ⟨q, 0, some 0⟩))) rfl rfl rfl rfl ?_
  refine OA.pure (dst := (some 4)) (v := (.bool false)) rfl rfl rfl rfl ?_
  refine OA.nil ?_
  intro _
  refine RA.cond (t := false) rfl (fun hc => ?_) (fun hc => ?_)
  · cases hc
  ·
    refine RA.skip env_ok ?_
    intro _
    refine RA.seq hd ?_
    refine RA.region env_ok ?_
    refine OA.pure (dst := (some 5)) (v := (.pointer (some ⟨q, 0, some 0⟩))) rfl rfl rfl rfl ?_
    refine OA.pure (dst := (some 6)) (v := (.pointer (some ⟨q, 0, some 0⟩))) rfl rfl rfl rfl ?_
    refine OA.pure (dst := (some 7)) (v := (.pointer (some ⟨q, 0, some 0⟩))) rfl rfl rfl rfl ?_
    refine OA.pure (dst := (some 8)) (v := (.slice (some ⟨j, 0, none⟩) 300 0)) rfl rfl rfl (r_load1 rfl rfl rfl rfl rfl hq rfl rfl) ?_
    refine OA.pure (dst := (some 9)) (v := (.int .i64 300)) rfl rfl rfl rfl ?_
    refine OA.pure (dst := (some 2)) (v := (.int .i64 300)) rfl rfl rfl rfl ?_
    refine OA.nil ?_
    intro _
    refine RA.ret env_ok ?_
    refine ⟨.inr rfl, [(.int .i64 300)], (resL_cons rfl resL_nil), rfl, (fun i hi => by cases hi)⟩

theorem nFull {σ : Store} (q j full : Nat) (hq : σ q = some ⟨[[(.slice (some ⟨j, 0, none⟩) 300 0), (.int .i64 ((full : Nat) : Int))]], 2, 115, true⟩)  : PS Try.prog noDen 32 [(.pointer (some ⟨q, 0, some 0⟩))] σ (.int .i64 ((full : Nat) : Int)) := by
  refine PS.body (E := env) env_ok rfl rfl (by show _ ≤ _; exact of_decide_eq_true (by kernel_rfl)) (fun n hd => ?_)
  have lhq := hd.lt hq
  refine RA.seq hd ?_
  refine RA.region env_ok ?_
  refine OA.pure (dst := (some 2)) (v := (.int .i64 0)) rfl rfl rfl rfl ?_
  refine OA.nil ?_
  intro _
  refine RA.seq hd ?_
  refine RA.seq hd ?_
  refine RA.region env_ok ?_
  refine OA.pure (dst := (some 3)) (v := (.pointer (some ⟨q, 0, some 0⟩))) rfl rfl rfl rfl ?_
  refine OA.pure (dst := (some 4)) (v := (.bool false)) rfl rfl rfl rfl ?_
  refine OA.nil ?_
  intro _
  refine RA.cond (t := false) rfl (fun hc => ?_) (fun hc => ?_)
  · cases hc
  ·
    refine RA.skip env_ok ?_
    intro _
    refine RA.seq hd ?_
    refine RA.region env_ok ?_
    refine OA.pure (dst := (some 5)) (v := (.pointer (some ⟨q, 0, some 0⟩))) rfl rfl rfl rfl ?_
    refine OA.pure (dst := (some 6)) (v := (.pointer (some ⟨q, 0, some 0⟩))) rfl rfl rfl rfl ?_
    refine OA.pure (dst := (some 7)) (v := (.pointer (some ⟨q, 0, some 1⟩))) rfl rfl rfl rfl ?_
    refine OA.pure (dst := (some 8)) (v := (.int .i64 ((full : Nat) : Int))) rfl rfl rfl (r_load1 rfl rfl rfl rfl rfl hq rfl rfl) ?_
    refine OA.pure (dst := (some 2)) (v := (.int .i64 ((full : Nat) : Int))) rfl rfl rfl rfl ?_
    refine OA.nil ?_
    intro _
    refine RA.ret env_ok ?_
    refine ⟨.inr rfl, [(.int .i64 ((full : Nat) : Int))], (resL_cons rfl resL_nil), rfl, (fun i hi => by cases hi)⟩

set_option maxHeartbeats 4000000 in
theorem nLaw {σ : Store} (m : Int)   : PS Try.prog noDen 7 [(.int .i64 m)] σ (.bool true) := by
  refine PS.body (E := env) env_ok rfl rfl (by show _ ≤ _; exact of_decide_eq_true (by kernel_rfl)) (fun n hd => ?_)
  refine RA.seq hd ?_
  refine RA.region env_ok ?_
  refine OA.pure (dst := (some 2)) (v := (.bool false)) rfl rfl rfl rfl ?_
  refine OA.nil ?_
  intro _
  refine RA.seq hd ?_
  refine RA.region env_ok ?_
  refine OA.call (dst := (some 7)) (all := []) rfl rfl rfl rfl rfl rfl rfl rfl (CQ.imp (nNew (hd.up (by omega))) ?_)
  rintro _ n1 _ ⟨q, hqa, hqb, rfl, rfl⟩ hn1
  show OA _ _ _ _ _ _ _ _ [(q, some ⟨[[(.slice none 0 0), (.int .i64 0)]], 2, 115, true⟩)] _
  refine OA.pure (dst := (some 3)) (v := (.pointer (some ⟨q, 0, some 0⟩))) rfl rfl rfl rfl ?_
  refine OA.nil ?_
  intro _
  refine RA.seq hd ?_
  refine RA.seq hd ?_
  refine RA.region env_ok ?_
  refine OA.pure (dst := (some 4)) (v := (.int .i64 0)) rfl rfl rfl rfl ?_
  refine OA.nil ?_
  intro _
  refine RA.block ?_
  refine RA.unroll hd ?_
  refine RA.seq hd ?_
  refine RA.seq hd ?_
  refine RA.region env_ok ?_
  refine OA.pure (dst := (some 8)) (v := (.int .i64 0)) rfl rfl rfl rfl ?_
  refine OA.pure (dst := (some 9)) (v := (.bool true)) rfl rfl rfl (r_bin rfl rfl rfl (b_lss rfl)) ?_
  refine OA.nil ?_
  intro _
  refine RA.cond (t := true) rfl (fun hc => ?_) (fun hc => ?_)
  ·
    refine RA.skip env_ok ?_
    intro _
    refine RA.seq hd ?_
    refine RA.block ?_
    refine RA.seq hd ?_
    refine RA.region env_ok ?_
    refine OA.pure (dst := (some 12)) (v := (.pointer (some ⟨q, 0, some 0⟩))) rfl rfl rfl rfl ?_
    refine OA.pure (dst := (some 13)) (v := (.int .i64 0)) rfl rfl rfl rfl ?_
    refine OA.pure (dst := (some 14)) (v := (.agg ⟨[(.int .i64 0), (.int .i64 0), (.int .u32 0), (.int .u32 0), (.string ByteArray.empty), (.bool false)]⟩)) rfl rfl rfl (by kernel_rfl) ?_
    refine OA.call (dst := (some 15)) (all := [(.pointer (some ⟨q, 0, some 0⟩)), (.agg ⟨[(.int .i64 0), (.int .i64 0), (.int .u32 0), (.int .u32 0), (.string ByteArray.empty), (.bool false)]⟩)]) rfl rfl rfl rfl rfl rfl rfl rfl (CQ.imp (nPut0 (hd.of (by omega) (by intro i hi; simp only [keys, List.cons_append, List.nil_append, List.map_cons, List.map_nil, List.mem_cons, List.not_mem_nil, or_false, false_or] at hi; omega)) q 0 0 0#32 0#32 ByteArray.empty false get_here) ?_)
    rintro _ n2 _ ⟨jn2, hjn2a, hjn2b, rfl, rfl⟩ hn2
    show OA _ _ _ _ _ _ _ _ [(q, some ⟨[[(.slice (some ⟨jn2, 0, none⟩) 1 0), (.int .i64 0)]], 2, 115, true⟩), (jn2, some ⟨(rowN 1), 6, 59, true⟩), (q, some ⟨[[(.slice none 0 0), (.int .i64 0)]], 2, 115, true⟩)] _
    refine OA.pure (dst := (some 16)) (v := (.bool false)) rfl rfl rfl rfl ?_
    refine OA.nil ?_
    intro _
    refine RA.cond (t := false) rfl (fun hc => ?_) (fun hc => ?_)
    · cases hc
    ·
      refine RA.skip env_ok ?_
      intro _
      refine RA.region env_ok ?_
      refine OA.pure (dst := (some 10)) (v := (.int .i64 0)) rfl rfl rfl rfl ?_
      refine OA.pure (dst := (some 11)) (v := (.int .i64 1)) rfl rfl rfl (r_bin rfl rfl rfl (b_add (i64_eq (by omega)))) ?_
      refine OA.pure (dst := (some 4)) (v := (.int .i64 1)) rfl rfl rfl rfl ?_
      refine OA.nil ?_
      intro _
      refine RA.weaken (D' := [(q, some ⟨[[(.slice (some ⟨jn2, 0, none⟩) 1 0), (.int .i64 0)]], 2, 115, true⟩), (jn2, some ⟨(rowN 1), 6, 59, true⟩)]) hd (Less.of (by simp only [List.forall_mem_cons, List.not_mem_nil, false_imp_iff, implies_true, and_true]; exact ⟨⟨by simp only [keys, List.cons_append, List.nil_append, List.map_cons, List.map_nil, List.mem_cons, true_or, or_true], fun _ => (get_here).trans (get_here).symm⟩, ⟨by simp only [keys, List.cons_append, List.nil_append, List.map_cons, List.map_nil, List.mem_cons, true_or, or_true], fun _ => ((get_there (by omega) get_here)).trans ((get_there (by omega) get_here)).symm⟩⟩) (by intro x hx; simp only [keys, List.cons_append, List.nil_append, List.map_cons, List.map_nil, List.mem_cons, List.not_mem_nil, or_false, false_or] at hx ⊢; omega)) ?_
      refine RA.loop hd (fun kk_ τ n' D => ∃ i : Nat, ∃ j : Nat,  kk_ = (300 - i) ∧ n2 ≤ n' ∧ Has τ [(0, (.int .i64 m)), (3, (.pointer (some ⟨q, 0, some 0⟩))), (4, (.int .i64 ((i : Nat) : Int)))] ∧ D = [(q, some ⟨[[(.slice (some ⟨j, 0, none⟩) i 0), (.int .i64 0)]], 2, 115, true⟩), (j, some ⟨(rowN i), 6, 59, true⟩)] ∧ (∀ i ∈ keys D, i < n') ∧ 1 ≤ i ∧ i ≤ 300 ∧ n ≤ j ∧ j ≠ q) ((300 - 1)) ⟨1, jn2, rfl, by omega, ⟨rfl, rfl, rfl, trivial⟩, rfl, (by intro i hi; simp only [keys, List.cons_append, List.nil_append, List.map_cons, List.map_nil, List.mem_cons, List.not_mem_nil, or_false, false_or] at hi; omega), ⟨by omega, by omega, by omega, by omega⟩⟩ ?_
      rintro kn3 τ3 n3 _ ⟨i, j, rfl, hn3, hHn3, rfl, hKn3, hIn3⟩
      rw [Has.eq hHn3]
      have hKn3_0 : q < n3 := hKn3 _ (by simp only [keys, List.map_cons, List.map_nil, List.mem_cons, true_or, or_true])
      have hKn3_1 : j < n3 := hKn3 _ (by simp only [keys, List.map_cons, List.map_nil, List.mem_cons, true_or, or_true])
      simp only [keys, List.map, List.forall_mem_cons, List.mem_cons, List.not_mem_nil, false_imp_iff, implies_true, and_true] at hKn3
      obtain ⟨hi1, hi, hnj, hjq⟩ := hIn3
      refine RA.seq hd ?_
      refine RA.seq hd ?_
      refine RA.region env_ok ?_
      refine OA.pure (dst := (some 8)) (v := (.int .i64 ((i : Nat) : Int))) rfl rfl rfl rfl ?_
      by_cases hc1 : ((i : Nat) : Int) < 300
      ·
        refine OA.pure (dst := (some 9)) (v := (.bool true)) rfl rfl rfl (Eq.trans (r_bin rfl rfl rfl (b_lss rfl)) (by first | (rw [decide_eq_true hc1]; done) | (rw [decide_eq_true hc1]; rfl))) ?_
        refine OA.nil ?_
        intro _
        refine RA.cond (t := true) rfl (fun hc => ?_) (fun hc => ?_)
        ·
          refine RA.skip env_ok ?_
          intro _
          refine RA.seq hd ?_
          refine RA.block ?_
          refine RA.seq hd ?_
          refine RA.region env_ok ?_
          refine OA.pure (dst := (some 12)) (v := (.pointer (some ⟨q, 0, some 0⟩))) rfl rfl rfl rfl ?_
          refine OA.pure (dst := (some 13)) (v := (.int .i64 ((i : Nat) : Int))) rfl rfl rfl rfl ?_
          refine OA.pure (dst := (some 14)) (v := (.agg ⟨[(.int .i64 0), (.int .i64 ((i : Nat) : Int)), (.int .u32 0), (.int .u32 0), (.string ByteArray.empty), (.bool false)]⟩)) rfl rfl rfl (by kernel_rfl) ?_
          refine OA.call (dst := (some 15)) (all := [(.pointer (some ⟨q, 0, some 0⟩)), (.agg ⟨[(.int .i64 0), (.int .i64 ((i : Nat) : Int)), (.int .u32 0), (.int .u32 0), (.string ByteArray.empty), (.bool false)]⟩)]) rfl rfl rfl rfl rfl rfl rfl rfl (CQ.imp (nPut1 (hd.of (by omega) (by intro i hi; simp only [keys, List.cons_append, List.nil_append, List.map_cons, List.map_nil, List.mem_cons, List.not_mem_nil, or_false, false_or] at hi; omega)) q j i (rowN i) (rowN_len i) (by omega) (by omega) 0 ((i : Nat) : Int) 0#32 0#32 ByteArray.empty false get_here (get_there (by omega) get_here)) ?_)
          rintro _ n4 _ ⟨jn4, hjn4a, hjn4b, rfl, rfl⟩ hn4
          show OA _ _ _ _ _ _ _ _ [(q, some ⟨[[(.slice (some ⟨jn4, 0, none⟩) (i + 1) 0), (.int .i64 0)]], 2, 115, true⟩), (jn4, some ⟨(rowN i ++ [itm i]), 6, 59, true⟩), (j, none), (q, some ⟨[[(.slice (some ⟨j, 0, none⟩) i 0), (.int .i64 0)]], 2, 115, true⟩), (j, some ⟨(rowN i), 6, 59, true⟩)] _
          refine OA.pure (dst := (some 16)) (v := (.bool false)) rfl rfl rfl rfl ?_
          refine OA.nil ?_
          intro _
          refine RA.cond (t := false) rfl (fun hc => ?_) (fun hc => ?_)
          · cases hc
          ·
            refine RA.skip env_ok ?_
            intro _
            refine RA.region env_ok ?_
            refine OA.pure (dst := (some 10)) (v := (.int .i64 ((i : Nat) : Int))) rfl rfl rfl rfl ?_
            refine OA.pure (dst := (some 11)) (v := (.int .i64 (((i + 1) : Nat) : Int))) rfl rfl rfl (r_bin rfl rfl rfl (b_add (i64_eq (by omega)))) ?_
            refine OA.pure (dst := (some 4)) (v := (.int .i64 (((i + 1) : Nat) : Int))) rfl rfl rfl rfl ?_
            refine OA.nil ?_
            refine ⟨(300 - (i + 1)), by omega, [(q, some ⟨[[(.slice (some ⟨jn4, 0, none⟩) (i + 1) 0), (.int .i64 0)]], 2, 115, true⟩), (jn4, some ⟨(rowN i ++ [itm i]), 6, 59, true⟩)], (Less.of (by simp only [List.forall_mem_cons, List.not_mem_nil, false_imp_iff, implies_true, and_true]; exact ⟨⟨by simp only [keys, List.cons_append, List.nil_append, List.map_cons, List.map_nil, List.mem_cons, true_or, or_true], fun _ => (get_here).trans (get_here).symm⟩, ⟨by simp only [keys, List.cons_append, List.nil_append, List.map_cons, List.map_nil, List.mem_cons, true_or, or_true], fun _ => ((get_there (by omega) get_here)).trans ((get_there (by omega) get_here)).symm⟩⟩) (by intro x hx; simp only [keys, List.cons_append, List.nil_append, List.map_cons, List.map_nil, List.mem_cons, List.not_mem_nil, or_false, false_or] at hx ⊢; omega)), (i + 1), jn4, rfl, by omega, ⟨rfl, rfl, rfl, trivial⟩, (by rw [rowN_succ] <;> rfl), (by intro i hi; simp only [keys, List.cons_append, List.nil_append, List.map_cons, List.map_nil, List.mem_cons, List.not_mem_nil, or_false, false_or] at hi; omega), ⟨by omega, by omega, by omega, by omega⟩⟩
        · cases hc
      ·
        refine OA.pure (dst := (some 9)) (v := (.bool false)) rfl rfl rfl (Eq.trans (r_bin rfl rfl rfl (b_lss rfl)) (by first | (rw [decide_eq_false hc1]; done) | (rw [decide_eq_false hc1]; rfl))) ?_
        refine OA.nil ?_
        intro _
        refine RA.cond (t := false) rfl (fun hc => ?_) (fun hc => ?_)
        · cases hc
        ·
          refine RA.exit env_ok ?_
          obtain rfl : i = 300 := by omega
          intro _
          refine RA.seq hd ?_
          refine RA.region env_ok ?_
          refine OA.pure (dst := (some 17)) (v := (.int .i64 m)) rfl rfl rfl rfl ?_
          have hm5 := andN_le m 15 (by decide)
          refine OA.pure (dst := (some 18)) (v := (.int .i64 (((andN m 15) : Nat) : Int))) rfl rfl rfl (r_bin rfl rfl rfl (b_andN m 15 (by decide))) ?_
          refine OA.pure (dst := (some 5)) (v := (.int .i64 (((andN m 15) : Nat) : Int))) rfl rfl rfl rfl ?_
          refine OA.nil ?_
          intro _
          refine RA.seq hd ?_
          refine RA.seq hd ?_
          refine RA.region env_ok ?_
          refine OA.pure (dst := (some 6)) (v := (.int .i64 0)) rfl rfl rfl rfl ?_
          refine OA.nil ?_
          intro _
          refine RA.block ?_
          refine RA.loop hd (fun kk_ τ n' D => ∃ k : Nat,  kk_ = ((andN m 15) - k) ∧ n3 ≤ n' ∧ Has τ [(3, (.pointer (some ⟨q, 0, some 0⟩))), (5, (.int .i64 (((andN m 15) : Nat) : Int))), (6, (.int .i64 ((k : Nat) : Int)))] ∧ D = [(q, some ⟨[[(.slice (some ⟨j, 0, none⟩) 300 0), (.int .i64 (((2 * k) : Nat) : Int))]], 2, 115, true⟩), (j, some ⟨(rowN 300), 6, 59, true⟩)] ∧ (∀ i ∈ keys D, i < n') ∧ k ≤ (andN m 15)) (((andN m 15) - 0)) ⟨0, rfl, by omega, ⟨rfl, rfl, rfl, trivial⟩, rfl, (by intro i hi; simp only [keys, List.cons_append, List.nil_append, List.map_cons, List.map_nil, List.mem_cons, List.not_mem_nil, or_false, false_or] at hi; omega), by omega⟩ ?_
          rintro kn6 τ6 n6 _ ⟨k, rfl, hn6, hHn6, rfl, hKn6, hIn6⟩
          rw [Has.eq hHn6]
          have hKn6_0 : q < n6 := hKn6 _ (by simp only [keys, List.map_cons, List.map_nil, List.mem_cons, true_or, or_true])
          have hKn6_1 : j < n6 := hKn6 _ (by simp only [keys, List.map_cons, List.map_nil, List.mem_cons, true_or, or_true])
          simp only [keys, List.map, List.forall_mem_cons, List.mem_cons, List.not_mem_nil, false_imp_iff, implies_true, and_true] at hKn6
          refine RA.seq hd ?_
          refine RA.seq hd ?_
          refine RA.region env_ok ?_
          refine OA.pure (dst := (some 19)) (v := (.int .i64 ((k : Nat) : Int))) rfl rfl rfl rfl ?_
          refine OA.pure (dst := (some 20)) (v := (.int .i64 (((andN m 15) : Nat) : Int))) rfl rfl rfl rfl ?_
          by_cases hc2 : ((k : Nat) : Int) < (((andN m 15) : Nat) : Int)
          ·
            refine OA.pure (dst := (some 21)) (v := (.bool true)) rfl rfl rfl (Eq.trans (r_bin rfl rfl rfl (b_lss rfl)) (by first | (rw [decide_eq_true hc2]; done) | (rw [decide_eq_true hc2]; rfl))) ?_
            refine OA.nil ?_
            intro _
            refine RA.cond (t := true) rfl (fun hc => ?_) (fun hc => ?_)
            ·
              refine RA.skip env_ok ?_
              intro _
              refine RA.seq hd ?_
              refine RA.block ?_
              refine RA.seq hd ?_
              refine RA.region env_ok ?_
              refine OA.pure (dst := (some 24)) (v := (.pointer (some ⟨q, 0, some 0⟩))) rfl rfl rfl rfl ?_
              refine OA.pure (dst := (some 25)) (v := (.agg ⟨[(.int .i64 0), (.int .i64 0), (.int .u32 0), (.int .u32 0), (.string ByteArray.empty), (.bool false)]⟩)) rfl rfl rfl (by kernel_rfl) ?_
              refine OA.call (dst := (some 26)) (all := [(.pointer (some ⟨q, 0, some 0⟩)), (.agg ⟨[(.int .i64 0), (.int .i64 0), (.int .u32 0), (.int .u32 0), (.string ByteArray.empty), (.bool false)]⟩)]) rfl rfl rfl rfl rfl rfl rfl rfl (CQ.imp (nPut2z (hd.of (by omega) (by intro i hi; simp only [keys, List.cons_append, List.nil_append, List.map_cons, List.map_nil, List.mem_cons, List.not_mem_nil, or_false, false_or] at hi; omega)) q j (2 * k) (by omega) get_here) ?_)
              rintro _ n7 _ ⟨rfl, rfl⟩ hn7
              show OA _ _ _ _ _ _ _ _ [(q, some ⟨[[(.slice (some ⟨j, 0, none⟩) 300 0), (.int .i64 ((((2 * k) + 1) : Nat) : Int))]], 2, 115, true⟩), (q, some ⟨[[(.slice (some ⟨j, 0, none⟩) 300 0), (.int .i64 (((2 * k) : Nat) : Int))]], 2, 115, true⟩), (j, some ⟨(rowN 300), 6, 59, true⟩)] _
              refine OA.pure (dst := (some 27)) (v := (.bool false)) rfl rfl rfl rfl ?_
              refine OA.pure (dst := (some 28)) (v := (.pointer (some ⟨q, 0, some 0⟩))) rfl rfl rfl rfl ?_
              refine OA.call (dst := (some 29)) (all := [(.pointer (some ⟨q, 0, some 0⟩)), (.int .i64 0)]) rfl rfl rfl rfl rfl rfl rfl rfl (CQ.imp (nDouble (hd.of (by omega) (by intro i hi; simp only [keys, List.cons_append, List.nil_append, List.map_cons, List.map_nil, List.mem_cons, List.not_mem_nil, or_false, false_or] at hi; omega)) q j ((2 * k) + 1) (by omega) (by omega) get_here (get_there (by omega) (get_there (by omega) get_here))) ?_)
              rintro _ n8 _ ⟨rfl, rfl⟩ hn8
              show OA _ _ _ _ _ _ _ _ [(q, some ⟨[[(.slice (some ⟨j, 0, none⟩) 300 0), (.int .i64 (((((2 * k) + 1) + 1) : Nat) : Int))]], 2, 115, true⟩), (q, some ⟨[[(.slice (some ⟨j, 0, none⟩) 300 0), (.int .i64 ((((2 * k) + 1) : Nat) : Int))]], 2, 115, true⟩), (q, some ⟨[[(.slice (some ⟨j, 0, none⟩) 300 0), (.int .i64 (((2 * k) : Nat) : Int))]], 2, 115, true⟩), (j, some ⟨(rowN 300), 6, 59, true⟩)] _
              refine OA.pure (dst := (some 30)) (v := (.bool false)) rfl rfl rfl rfl ?_
              refine OA.nil ?_
              intro _
              refine RA.cond (t := false) rfl (fun hc => ?_) (fun hc => ?_)
              · cases hc
              ·
                refine RA.skip env_ok ?_
                intro _
                refine RA.region env_ok ?_
                refine OA.pure (dst := (some 22)) (v := (.int .i64 ((k : Nat) : Int))) rfl rfl rfl rfl ?_
                refine OA.pure (dst := (some 23)) (v := (.int .i64 (((k + 1) : Nat) : Int))) rfl rfl rfl (r_bin rfl rfl rfl (b_add (i64_eq (by omega)))) ?_
                refine OA.pure (dst := (some 6)) (v := (.int .i64 (((k + 1) : Nat) : Int))) rfl rfl rfl rfl ?_
                refine OA.nil ?_
                refine ⟨((andN m 15) - (k + 1)), by omega, [(q, some ⟨[[(.slice (some ⟨j, 0, none⟩) 300 0), (.int .i64 (((((2 * k) + 1) + 1) : Nat) : Int))]], 2, 115, true⟩), (j, some ⟨(rowN 300), 6, 59, true⟩)], (Less.of (by simp only [List.forall_mem_cons, List.not_mem_nil, false_imp_iff, implies_true, and_true]; exact ⟨⟨by simp only [keys, List.cons_append, List.nil_append, List.map_cons, List.map_nil, List.mem_cons, true_or, or_true], fun _ => (get_here).trans (get_here).symm⟩, ⟨by simp only [keys, List.cons_append, List.nil_append, List.map_cons, List.map_nil, List.mem_cons, true_or, or_true], fun _ => ((get_there (by omega) get_here)).trans ((get_there (by omega) (get_there (by omega) (get_there (by omega) get_here)))).symm⟩⟩) (by intro x hx; simp only [keys, List.cons_append, List.nil_append, List.map_cons, List.map_nil, List.mem_cons, List.not_mem_nil, or_false, false_or] at hx ⊢; omega)), (k + 1), rfl, by omega, ⟨rfl, rfl, rfl, trivial⟩, rfl, (by intro i hi; simp only [keys, List.cons_append, List.nil_append, List.map_cons, List.map_nil, List.mem_cons, List.not_mem_nil, or_false, false_or] at hi; omega), by omega⟩
            · cases hc
          ·
            refine OA.pure (dst := (some 21)) (v := (.bool false)) rfl rfl rfl (Eq.trans (r_bin rfl rfl rfl (b_lss rfl)) (by first | (rw [decide_eq_false hc2]; done) | (rw [decide_eq_false hc2]; rfl))) ?_
            refine OA.nil ?_
            intro _
            refine RA.cond (t := false) rfl (fun hc => ?_) (fun hc => ?_)
            · cases hc
            ·
              refine RA.exit env_ok ?_
              intro _
              refine RA.seq hd ?_
              refine RA.region env_ok ?_
              refine OA.callP (dst := (some 31)) (all := []) (v := (.bool true)) (hd.of (by omega) (by intro i hi; simp only [keys, List.cons_append, List.nil_append, List.map_cons, List.map_nil, List.mem_cons, List.not_mem_nil, or_false, false_or] at hi; omega)) rfl rfl rfl rfl rfl rfl rfl rfl awake ?_
              intro n9 hn9
              refine OA.pure (dst := (some 32)) (v := (.bool true)) rfl rfl rfl rfl ?_
              refine OA.pure (dst := (some 33)) (v := (.pointer (some ⟨q, 0, some 0⟩))) rfl rfl rfl rfl ?_
              refine OA.callP (dst := (some 34)) (all := [(.pointer (some ⟨q, 0, some 0⟩))]) (v := (.int .i64 300)) (hd.of (by omega) (by intro i hi; simp only [keys, List.cons_append, List.nil_append, List.map_cons, List.map_nil, List.mem_cons, List.not_mem_nil, or_false, false_or] at hi; omega)) rfl rfl rfl rfl rfl rfl rfl rfl (nLen q j _ get_here) ?_
              intro n10 hn10
              refine OA.pure (dst := (some 35)) (v := (.bool true)) rfl rfl rfl (r_bin rfl rfl rfl (b_eql rfl)) ?_
              refine OA.pure (dst := (some 36)) (v := (.bool true)) rfl rfl rfl rfl ?_
              refine OA.pure (dst := (some 37)) (v := (.bool true)) rfl rfl rfl rfl ?_
              refine OA.pure (dst := (some 38)) (v := (.pointer (some ⟨q, 0, some 0⟩))) rfl rfl rfl rfl ?_
              refine OA.callP (dst := (some 39)) (all := [(.pointer (some ⟨q, 0, some 0⟩))]) (v := (.int .i64 (((2 * k) : Nat) : Int))) (hd.of (by omega) (by intro i hi; simp only [keys, List.cons_append, List.nil_append, List.map_cons, List.map_nil, List.mem_cons, List.not_mem_nil, or_false, false_or] at hi; omega)) rfl rfl rfl rfl rfl rfl rfl rfl (nFull q j _ get_here) ?_
              intro n11 hn11
              refine OA.pure (dst := (some 40)) (v := (.int .i64 (((andN m 15) : Nat) : Int))) rfl rfl rfl rfl ?_
              refine OA.pure (dst := (some 41)) (v := (.int .i64 (((2 * (andN m 15)) : Nat) : Int))) rfl rfl rfl (r_bin rfl rfl rfl (b_mul (i64_eq (by omega)))) ?_
              refine OA.pure (dst := (some 42)) (v := (.bool (decide ((((2 * k) : Nat) : Int) = (((2 * (andN m 15)) : Nat) : Int))))) rfl rfl rfl (r_bin rfl rfl rfl (b_eql rfl)) ?_
              refine OA.pure (dst := (some 43)) (v := (.bool (decide ((((2 * k) : Nat) : Int) = (((2 * (andN m 15)) : Nat) : Int))))) rfl rfl rfl rfl ?_
              refine OA.pure (dst := (some 2)) (v := (.bool (decide ((((2 * k) : Nat) : Int) = (((2 * (andN m 15)) : Nat) : Int))))) rfl rfl rfl rfl ?_
              refine OA.nil ?_
              intro _
              refine RA.ret env_ok ?_
              refine ⟨.inr rfl, [(.bool (decide ((((2 * k) : Nat) : Int) = (((2 * (andN m 15)) : Nat) : Int))))], (resL_cons rfl resL_nil), (by rw [one, decide_eq_true (by omega)]), (by intro i hi; simp only [keys, List.cons_append, List.nil_append, List.map_cons, List.map_nil, List.mem_cons, List.not_mem_nil, or_false, false_or] at hi; omega)⟩
  · cases hc
end Go.Proofs.Ytnjknabighmedaa.Vt
