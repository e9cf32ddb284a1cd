/- Rr: walks through functions of the program, by the calculus; written by a program of this workplace. -/
import Derived.Test.YtgajcmanompmcaaRq
namespace Go.Proofs.Ytgajcmanompmcaa.Vt
open Go Go.Proofs Go.Proofs.YtgajcmanompmcaaV
set_option maxRecDepth 100000
set_option linter.unusedVariables false
set_option linter.unusedSimpArgs false
theorem sLaw {σ : Store} (typ : Int) (v : ByteArray) (id : BitVec 32) (many : Int)   : PS Try.prog noDen 5 [(.agg ⟨[(.int .i64 typ), (.string v)]⟩), (W id), (.int .i64 many)] σ (.bool true) := by
  refine PS.body (E := env) env_ok rfl rfl (by show _ ≤ _; exact of_decide_eq_true (by kernel_rfl)) (fun n hd => ?_)
  refine RA.seq hd ?_
  refine RA.region env_ok ?_
  refine OA.op (dst := (some 3)) (v := (.pointer (some ⟨n, 0, some 0⟩))) (n1 := (n + 1)) (d1 := [(n, some ⟨[[(.int .i64 typ), (.string v)]], 2, 35, true⟩)]) (D' := [(n, some ⟨[[(.int .i64 typ), (.string v)]], 2, 35, true⟩)]) rfl rfl rfl rfl (by omega) rfl ?_
  refine OA.pure (dst := (some 6)) (v := (.bool false)) rfl rfl rfl rfl ?_
  refine OA.nil ?_
  intro _
  refine RA.seq hd ?_
  refine RA.par (md := [some [], some [n], some [], some [n], some [], some [n], some [], some [], some [], some [], some [], none]) env_ok (hd.of (by omega) (by intro i hi; simp only [keys, List.cons_append, List.nil_append, List.map_cons, List.map_nil, List.mem_cons, List.not_mem_nil, or_false, false_or] at hi; omega)) (by kernel_rfl) ?_
  refine PQ.pure (dst := (some 23)) (v := (.pointer (some ⟨n, 0, some 0⟩))) rfl rfl rfl noStore (none_ok _ _) rfl ?_
  refine PQ.pure (dst := (some 24)) (v := (.int .i64 typ)) rfl rfl rfl (app [(n, some ⟨[[(.int .i64 typ), (.string v)]], 2, 35, true⟩)] noStore) (seen_one (V := []) (D := [(n, some ⟨[[(.int .i64 typ), (.string v)]], 2, 35, true⟩)]) (by kernel_rfl) get_here) (r_load1 rfl rfl rfl rfl rfl get_here rfl rfl) ?_
  refine PQ.pure (dst := (some 25)) (v := (.pointer (some ⟨n, 0, some 1⟩))) rfl rfl rfl noStore (none_ok _ _) rfl ?_
  refine PQ.pure (dst := (some 26)) (v := (.string v)) rfl rfl rfl (app [(n, some ⟨[[(.int .i64 typ), (.string v)]], 2, 35, true⟩)] noStore) (seen_one (V := []) (D := [(n, some ⟨[[(.int .i64 typ), (.string v)]], 2, 35, true⟩)]) (by kernel_rfl) get_here) (r_load1 rfl rfl rfl rfl rfl get_here rfl rfl) ?_
  refine PQ.pure (dst := (some 27)) (v := (.pointer (some ⟨n, 0, some 1⟩))) rfl rfl rfl noStore (none_ok _ _) rfl ?_
  refine PQ.pure (dst := (some 28)) (v := (.string v)) rfl rfl rfl (app [(n, some ⟨[[(.int .i64 typ), (.string v)]], 2, 35, true⟩)] noStore) (seen_one (V := []) (D := [(n, some ⟨[[(.int .i64 typ), (.string v)]], 2, 35, true⟩)]) (by kernel_rfl) get_here) (r_load1 rfl rfl rfl rfl rfl get_here rfl rfl) ?_
  refine PQ.pure (dst := (some 29)) (v := (.int .i64 ((v.size : Nat) : Int))) rfl rfl rfl noStore (none_ok _ _) rfl ?_
  refine PQ.pure (dst := (some 30)) (v := (.int .i64 (((min v.size 12) : Nat) : Int))) rfl rfl rfl noStore (none_ok _ _) (r_min (a := v.size) (b := 12) rfl rfl rfl) ?_
  refine PQ.pure (dst := (some 31)) (v := (.string (v.extract 0 (min v.size 12)))) rfl rfl rfl noStore (none_ok _ _) (r_cut (a := 0) (b := (min v.size 12)) rfl rfl (fun _ => rfl) (fun _ => rfl) rfl rfl rfl bound_nat (by omega) (by omega) rfl) ?_
  refine PQ.pure (dst := (some 32)) (v := (.agg ⟨[(.int .i64 typ), (.string (v.extract 0 (min v.size 12)))]⟩)) rfl rfl rfl noStore (none_ok _ _) (by kernel_rfl) ?_
  refine PQ.op (dst := (some 7)) (v := (.pointer (some ⟨(n + 1), 0, some 0⟩))) (n1 := (n + 2)) (d1 := [((n + 1), some ⟨[[(.int .i64 0), (.string ByteArray.empty)]], 2, 35, true⟩)]) rfl rfl rfl noStore (none_ok _ _) rfl (by omega) (fun x hx => by first | (simp only [keys, List.cons_append, List.nil_append, List.map_cons, List.map_nil, List.mem_cons, List.not_mem_nil, or_false, false_or] at hx; exact wr_new (by omega) (by omega)) | (simp only [keys, List.cons_append, List.nil_append, List.map_cons, List.map_nil, List.mem_cons, List.not_mem_nil, or_false, false_or] at hx; exact wr_old [0, 1, 2, 3, 4, 5, 6, 7, 8, 9] (by kernel_rfl) (by omega) (by omega) (by intro i hi; simp only [List.mem_cons, List.not_mem_nil, or_false] at hi; rcases hi with rfl | rfl | rfl | rfl | rfl | rfl | rfl | rfl | rfl | rfl <;> exact ⟨_, rfl, by simp only [List.mem_cons, List.not_mem_nil, or_false, not_false_eq_true]; try omega⟩))) ?_
  refine PQ.op (dst := none) (v := (.tuple #[])) (n1 := (n + 2)) (d1 := [((n + 1), some ⟨[[(.int .i64 typ), (.string (v.extract 0 (min v.size 12)))]], 2, 35, true⟩)]) rfl rfl rfl (app [((n + 1), some ⟨[[(.int .i64 0), (.string ByteArray.empty)]], 2, 35, true⟩), (n, some ⟨[[(.int .i64 typ), (.string v)]], 2, 35, true⟩)] σ) (seen_any (V := [((n + 1), some ⟨[[(.int .i64 0), (.string ByteArray.empty)]], 2, 35, true⟩)]) (D := [(n, some ⟨[[(.int .i64 typ), (.string v)]], 2, 35, true⟩)]) (by kernel_rfl)) (r_store rfl rfl rfl rfl rfl rfl rfl get_here rfl rfl (Nat.le_of_ble_eq_true rfl) rfl) (by omega) (fun x hx => by first | (simp only [keys, List.cons_append, List.nil_append, List.map_cons, List.map_nil, List.mem_cons, List.not_mem_nil, or_false, false_or] at hx; exact wr_new (by omega) (by omega)) | (exact wr_tight (by kernel_rfl) (by simp only [keys, List.cons_append, List.nil_append, List.map_cons, List.map_nil, List.mem_cons, List.not_mem_nil, or_false, false_or] at hx; omega))) ?_
  refine PQ.done (d := [((n + 1), some ⟨[[(.int .i64 typ), (.string (v.extract 0 (min v.size 12)))]], 2, 35, true⟩), ((n + 1), some ⟨[[(.int .i64 0), (.string ByteArray.empty)]], 2, 35, true⟩)]) (by kernel_rfl) ?_
  intro _
  refine RA.seq hd ?_
  refine RA.region env_ok ?_
  refine OA.pure (dst := (some 33)) (v := (.int .i64 many)) rfl rfl rfl rfl ?_
  have hm1 := andN_le many 65535 (by decide)
  refine OA.pure (dst := (some 34)) (v := (.int .i64 (((andN many 65535) : Nat) : Int))) rfl rfl rfl (r_bin rfl rfl rfl (b_andN many 65535 (by decide))) ?_
  refine OA.pure (dst := (some 8)) (v := (.int .i64 (((andN many 65535) : Nat) : Int))) rfl rfl rfl rfl ?_
  refine OA.nil ?_
  intro _
  refine RA.seq hd ?_
  refine RA.region env_ok ?_
  refine OA.pure (dst := (some 36)) (v := (W id)) rfl rfl rfl rfl ?_
  refine OA.pure (dst := (some 37)) (v := (.int .i64 (((andN many 65535) : Nat) : Int))) rfl rfl rfl rfl ?_
  refine OA.callP (dst := (some 38)) (all := [(W id), (.int .i64 (((andN many 65535) : Nat) : Int))]) (v := (.agg ⟨[(.int .i64 17), (.string (moreV id (andN many 65535)))]⟩)) (hd.of (by omega) (by intro i hi; simp only [keys, List.cons_append, List.nil_append, List.map_cons, List.map_nil, List.mem_cons, List.not_mem_nil, or_false, false_or] at hi; omega)) rfl rfl rfl rfl rfl rfl rfl rfl (sMore _ _ (by omega)) ?_
  intro n2 hn2
  by_cases hc1 : (andN many 65535) ≠ 0
  ·
    refine OA.callP (dst := (some 39)) (all := [(.agg ⟨[(.int .i64 17), (.string (moreV id (andN many 65535)))]⟩)]) (v := (.tuple ⟨[(W id), (.int .i64 (((andN many 65535) : Nat) : Int)), (.bool true)]⟩)) (hd.of (by omega) (by intro i hi; simp only [keys, List.cons_append, List.nil_append, List.map_cons, List.map_nil, List.mem_cons, List.not_mem_nil, or_false, false_or] at hi; omega)) rfl rfl rfl rfl rfl rfl rfl rfl (sMM1 _ _ (by omega) hc1) ?_
    intro n3 hn3
    refine OA.pure (dst := (some 35)) (v := (.tuple ⟨[(W id), (.int .i64 (((andN many 65535) : Nat) : Int)), (.bool true)]⟩)) rfl rfl rfl rfl ?_
    refine OA.pure (dst := (some 40)) (v := (W id)) rfl rfl rfl rfl ?_
    refine OA.pure (dst := (some 41)) (v := (.int .i64 (((andN many 65535) : Nat) : Int))) rfl rfl rfl rfl ?_
    refine OA.pure (dst := (some 42)) (v := (.bool true)) rfl rfl rfl rfl ?_
    refine OA.pure (dst := (some 9)) (v := (W id)) rfl rfl rfl rfl ?_
    refine OA.pure (dst := (some 10)) (v := (.int .i64 (((andN many 65535) : Nat) : Int))) rfl rfl rfl rfl ?_
    refine OA.pure (dst := (some 11)) (v := (.bool true)) rfl rfl rfl rfl ?_
    refine OA.nil ?_
    intro _
    refine RA.rebase [(0, (.agg ⟨[(.int .i64 typ), (.string v)]⟩)), (1, (W id)), (2, (.int .i64 many)), (3, (.pointer (some ⟨n, 0, some 0⟩))), (6, (.bool false)), (7, (.pointer (some ⟨(n + 1), 0, some 0⟩))), (8, (.int .i64 (((andN many 65535) : Nat) : Int))), (9, (W id)), (10, (.int .i64 (((andN many 65535) : Nat) : Int))), (11, (.bool true))] ⟨rfl, rfl, rfl, rfl, rfl, rfl, rfl, rfl, rfl, rfl, trivial⟩ (fun τr4 => ?_)
    refine RA.seq hd ?_
    refine RA.region env_ok ?_
    refine OA.pure (dst := (some 44)) (v := (W id)) rfl rfl rfl rfl ?_
    refine OA.pure (dst := (some 45)) (v := (.int .i64 (((andN many 65535) : Nat) : Int))) rfl rfl rfl rfl ?_
    have hm5 := andN_le (((andN many 65535) : Nat) : Int) 3 (by decide)
    refine OA.pure (dst := (some 46)) (v := (.int .i64 (((andN (((andN many 65535) : Nat) : Int) 3) : Nat) : Int))) rfl rfl rfl (r_bin rfl rfl rfl (b_andN (((andN many 65535) : Nat) : Int) 3 (by decide))) ?_
    refine OA.callP (dst := (some 47)) (all := [(W id), (.int .i64 (((andN (((andN many 65535) : Nat) : Int) 3) : Nat) : Int))]) (v := (.agg ⟨[(.int .i64 16), (.string (resV id (BitVec.ofNat 32 (andN (((andN many 65535) : Nat) : Int) 3))))]⟩)) (hd.of (by omega) (by intro i hi; simp only [keys, List.cons_append, List.nil_append, List.map_cons, List.map_nil, List.mem_cons, List.not_mem_nil, or_false, false_or] at hi; omega)) rfl rfl rfl rfl rfl rfl rfl rfl (sRes _ _ (by omega)) ?_
    intro n6 hn6
    by_cases hc2 : ((andN (((andN many 65535) : Nat) : Int) 3) = 1 ∨ (andN (((andN many 65535) : Nat) : Int) 3) = 2)
    ·
      refine OA.callP (dst := (some 48)) (all := [(.agg ⟨[(.int .i64 16), (.string (resV id (BitVec.ofNat 32 (andN (((andN many 65535) : Nat) : Int) 3))))]⟩)]) (v := (.tuple ⟨[(W id), (.int .i64 (((andN (((andN many 65535) : Nat) : Int) 3) : Nat) : Int)), (.bool true)]⟩)) (hd.of (by omega) (by intro i hi; simp only [keys, List.cons_append, List.nil_append, List.map_cons, List.map_nil, List.mem_cons, List.not_mem_nil, or_false, false_or] at hi; omega)) rfl rfl rfl rfl rfl rfl rfl rfl (sRR1 _ _ (by omega) hc2) ?_
      intro n7 hn7
      refine OA.pure (dst := (some 43)) (v := (.tuple ⟨[(W id), (.int .i64 (((andN (((andN many 65535) : Nat) : Int) 3) : Nat) : Int)), (.bool true)]⟩)) rfl rfl rfl rfl ?_
      refine OA.pure (dst := (some 49)) (v := (W id)) rfl rfl rfl rfl ?_
      refine OA.pure (dst := (some 50)) (v := (.int .i64 (((andN (((andN many 65535) : Nat) : Int) 3) : Nat) : Int))) rfl rfl rfl rfl ?_
      refine OA.pure (dst := (some 51)) (v := (.bool true)) rfl rfl rfl rfl ?_
      refine OA.pure (dst := (some 12)) (v := (W id)) rfl rfl rfl rfl ?_
      refine OA.pure (dst := (some 13)) (v := (.int .i64 (((andN (((andN many 65535) : Nat) : Int) 3) : Nat) : Int))) rfl rfl rfl rfl ?_
      refine OA.pure (dst := (some 14)) (v := (.bool true)) rfl rfl rfl rfl ?_
      refine OA.nil ?_
      intro _
      refine RA.seq hd ?_
      refine RA.seq hd ?_
      refine RA.region env_ok ?_
      refine OA.callP (dst := (some 52)) (all := []) (v := (.bool true)) (hd.of (by omega) (by intro i hi; simp only [keys, List.cons_append, List.nil_append, List.map_cons, List.map_nil, List.mem_cons, List.not_mem_nil, or_false, false_or] at hi; omega)) rfl rfl rfl rfl rfl rfl rfl rfl awake ?_
      intro n8 hn8
      refine OA.pure (dst := (some 53)) (v := (.bool false)) rfl rfl rfl rfl ?_
      refine OA.pure (dst := (some 54)) (v := (.bool false)) rfl rfl rfl rfl ?_
      refine OA.pure (dst := (some 55)) (v := (.bool true)) rfl rfl rfl rfl ?_
      refine OA.pure (dst := (some 56)) (v := (.int .i64 (((andN many 65535) : Nat) : Int))) rfl rfl rfl rfl ?_
      by_cases hc3 : 0 < (((andN many 65535) : Nat) : Int)
      ·
        refine OA.pure (dst := (some 57)) (v := (.bool true)) rfl rfl rfl (Eq.trans (r_bin rfl rfl rfl (b_gtr rfl)) (by first | (rw [decide_eq_true hc3]; done) | (rw [decide_eq_true hc3]; rfl))) ?_
        refine OA.pure (dst := (some 58)) (v := (.bool false)) rfl rfl rfl rfl ?_
        refine OA.pure (dst := (some 59)) (v := (.bool false)) rfl rfl rfl rfl ?_
        refine OA.pure (dst := (some 60)) (v := (.bool false)) rfl rfl rfl rfl ?_
        refine OA.pure (dst := (some 61)) (v := (.bool true)) rfl rfl rfl rfl ?_
        refine OA.pure (dst := (some 62)) (v := (.bool true)) rfl rfl rfl rfl ?_
        refine OA.pure (dst := (some 63)) (v := (W id)) rfl rfl rfl rfl ?_
        refine OA.pure (dst := (some 64)) (v := (W id)) rfl rfl rfl rfl ?_
        refine OA.pure (dst := (some 65)) (v := (.bool false)) rfl rfl rfl (r_bin rfl rfl rfl (b_neq (decide_eq_false (fun h => h rfl)))) ?_
        refine OA.pure (dst := (some 66)) (v := (.bool false)) rfl rfl rfl rfl ?_
        refine OA.pure (dst := (some 67)) (v := (.int .i64 (((andN many 65535) : Nat) : Int))) rfl rfl rfl rfl ?_
        refine OA.pure (dst := (some 68)) (v := (.int .i64 (((andN many 65535) : Nat) : Int))) rfl rfl rfl rfl ?_
        refine OA.pure (dst := (some 69)) (v := (.bool false)) rfl rfl rfl (r_bin rfl rfl rfl (b_neq (decide_eq_false (fun h => h rfl)))) ?_
        refine OA.pure (dst := (some 70)) (v := (.bool false)) rfl rfl rfl rfl ?_
        refine OA.pure (dst := (some 71)) (v := (.bool false)) rfl rfl rfl rfl ?_
        refine OA.pure (dst := (some 72)) (v := (.bool false)) rfl rfl rfl rfl ?_
        refine OA.pure (dst := (some 73)) (v := (.bool false)) rfl rfl rfl rfl ?_
        refine OA.pure (dst := (some 74)) (v := (.bool true)) rfl rfl rfl rfl ?_
        refine OA.pure (dst := (some 75)) (v := (.int .i64 (((andN many 65535) : Nat) : Int))) rfl rfl rfl rfl ?_
        have hm9 := andN_le (((andN many 65535) : Nat) : Int) 3 (by decide)
        refine OA.pure (dst := (some 76)) (v := (.int .i64 (((andN (((andN many 65535) : Nat) : Int) 3) : Nat) : Int))) rfl rfl rfl (r_bin rfl rfl rfl (b_andN (((andN many 65535) : Nat) : Int) 3 (by decide))) ?_
        by_cases hc4 : (((andN (((andN many 65535) : Nat) : Int) 3) : Nat) : Int) = 1
        ·
          refine OA.pure (dst := (some 77)) (v := (.bool true)) rfl rfl rfl (Eq.trans (r_bin rfl rfl rfl (b_eql rfl)) (by first | (rw [decide_eq_true hc4]; done) | (rw [decide_eq_true hc4]; rfl))) ?_
          refine OA.pure (dst := (some 78)) (v := (.bool true)) rfl rfl rfl rfl ?_
          refine OA.off (dst := (some 79)) rfl rfl rfl ?_
          refine OA.off (dst := (some 80)) rfl rfl rfl ?_
          refine OA.off (dst := (some 81)) rfl rfl rfl ?_
          refine OA.pure (dst := (some 82)) (v := (.bool true)) rfl rfl rfl rfl ?_
          refine OA.pure (dst := (some 83)) (v := (.bool false)) rfl rfl rfl rfl ?_
          refine OA.pure (dst := (some 84)) (v := (.bool false)) rfl rfl rfl rfl ?_
          refine OA.pure (dst := (some 85)) (v := (.bool false)) rfl rfl rfl rfl ?_
          refine OA.pure (dst := (some 86)) (v := (.bool true)) rfl rfl rfl rfl ?_
          refine OA.pure (dst := (some 87)) (v := (.bool true)) rfl rfl rfl rfl ?_
          refine OA.pure (dst := (some 88)) (v := (W id)) rfl rfl rfl rfl ?_
          refine OA.pure (dst := (some 89)) (v := (W id)) rfl rfl rfl rfl ?_
          refine OA.pure (dst := (some 90)) (v := (.bool false)) rfl rfl rfl (r_bin rfl rfl rfl (b_neq (decide_eq_false (fun h => h rfl)))) ?_
          refine OA.pure (dst := (some 91)) (v := (.bool false)) rfl rfl rfl rfl ?_
          refine OA.pure (dst := (some 92)) (v := (.int .i64 (((andN (((andN many 65535) : Nat) : Int) 3) : Nat) : Int))) rfl rfl rfl rfl ?_
          refine OA.pure (dst := (some 93)) (v := (.int .i64 (((andN many 65535) : Nat) : Int))) rfl rfl rfl rfl ?_
          have hm10 := andN_le (((andN many 65535) : Nat) : Int) 3 (by decide)
          refine OA.pure (dst := (some 94)) (v := (.int .i64 (((andN (((andN many 65535) : Nat) : Int) 3) : Nat) : Int))) rfl rfl rfl (r_bin rfl rfl rfl (b_andN (((andN many 65535) : Nat) : Int) 3 (by decide))) ?_
          refine OA.pure (dst := (some 95)) (v := (.bool false)) rfl rfl rfl (r_bin rfl rfl rfl (b_neq (decide_eq_false (fun h => h rfl)))) ?_
          refine OA.pure (dst := (some 96)) (v := (.bool false)) rfl rfl rfl rfl ?_
          refine OA.pure (dst := (some 97)) (v := (.bool false)) rfl rfl rfl rfl ?_
          refine OA.pure (dst := (some 98)) (v := (.bool false)) rfl rfl rfl rfl ?_
          refine OA.nil ?_
          intro _
          refine RA.rebase [(0, (.agg ⟨[(.int .i64 typ), (.string v)]⟩)), (1, (W id)), (2, (.int .i64 many)), (3, (.pointer (some ⟨n, 0, some 0⟩))), (6, (.bool false)), (7, (.pointer (some ⟨(n + 1), 0, some 0⟩))), (8, (.int .i64 (((andN many 65535) : Nat) : Int))), (9, (W id)), (10, (.int .i64 (((andN many 65535) : Nat) : Int))), (11, (.bool true)), (12, (W id)), (13, (.int .i64 (((andN (((andN many 65535) : Nat) : Int) 3) : Nat) : Int))), (14, (.bool true)), (98, (.bool false))] ⟨rfl, rfl, rfl, rfl, rfl, rfl, rfl, rfl, rfl, rfl, rfl, rfl, rfl, rfl, trivial⟩ (fun τr11 => ?_)
          refine RA.cond (t := false) rfl (fun hc => ?_) (fun hc => ?_)
          · cases hc
          ·
            refine RA.skip env_ok ?_
            intro _
            refine RA.weaken (D' := [((n + 1), some ⟨[[(.int .i64 typ), (.string (v.extract 0 (min v.size 12)))]], 2, 35, true⟩)]) hd (Less.of (by simp only [List.forall_mem_cons, List.not_mem_nil, false_imp_iff, implies_true, and_true]; exact ⟨by simp only [keys, List.cons_append, List.nil_append, List.map_cons, List.map_nil, List.mem_cons, true_or, or_true], fun _ => (get_here).trans (get_here).symm⟩) (by intro x hx; simp only [keys, List.cons_append, List.nil_append, List.map_cons, List.map_nil, List.mem_cons, List.not_mem_nil, or_false, false_or] at hx ⊢; omega)) ?_
            refine RA.rebase [(7, (.pointer (some ⟨(n + 1), 0, some 0⟩)))] ⟨rfl, trivial⟩ (fun τr => ?_)
            exact suf hd typ (v.extract 0 (min v.size 12)) (by rw [size_cut _ _ _ (by omega)]; omega) n8 (by omega) τr
        ·
          refine OA.pure (dst := (some 77)) (v := (.bool false)) rfl rfl rfl (Eq.trans (r_bin rfl rfl rfl (b_eql rfl)) (by first | (rw [decide_eq_false hc4]; done) | (rw [decide_eq_false hc4]; rfl))) ?_
          refine OA.pure (dst := (some 78)) (v := (.bool false)) rfl rfl rfl rfl ?_
          refine OA.pure (dst := (some 79)) (v := (.int .i64 (((andN many 65535) : Nat) : Int))) rfl rfl rfl rfl ?_
          have hm12 := andN_le (((andN many 65535) : Nat) : Int) 3 (by decide)
          refine OA.pure (dst := (some 80)) (v := (.int .i64 (((andN (((andN many 65535) : Nat) : Int) 3) : Nat) : Int))) rfl rfl rfl (r_bin rfl rfl rfl (b_andN (((andN many 65535) : Nat) : Int) 3 (by decide))) ?_
          by_cases hc5 : (((andN (((andN many 65535) : Nat) : Int) 3) : Nat) : Int) = 2
          ·
            refine OA.pure (dst := (some 81)) (v := (.bool true)) rfl rfl rfl (Eq.trans (r_bin rfl rfl rfl (b_eql rfl)) (by first | (rw [decide_eq_true hc5]; done) | (rw [decide_eq_true hc5]; rfl))) ?_
            refine OA.pure (dst := (some 82)) (v := (.bool true)) rfl rfl rfl rfl ?_
            refine OA.pure (dst := (some 83)) (v := (.bool false)) rfl rfl rfl rfl ?_
            refine OA.pure (dst := (some 84)) (v := (.bool false)) rfl rfl rfl rfl ?_
            refine OA.pure (dst := (some 85)) (v := (.bool false)) rfl rfl rfl rfl ?_
            refine OA.pure (dst := (some 86)) (v := (.bool true)) rfl rfl rfl rfl ?_
            refine OA.pure (dst := (some 87)) (v := (.bool true)) rfl rfl rfl rfl ?_
            refine OA.pure (dst := (some 88)) (v := (W id)) rfl rfl rfl rfl ?_
            refine OA.pure (dst := (some 89)) (v := (W id)) rfl rfl rfl rfl ?_
            refine OA.pure (dst := (some 90)) (v := (.bool false)) rfl rfl rfl (r_bin rfl rfl rfl (b_neq (decide_eq_false (fun h => h rfl)))) ?_
            refine OA.pure (dst := (some 91)) (v := (.bool false)) rfl rfl rfl rfl ?_
            refine OA.pure (dst := (some 92)) (v := (.int .i64 (((andN (((andN many 65535) : Nat) : Int) 3) : Nat) : Int))) rfl rfl rfl rfl ?_
            refine OA.pure (dst := (some 93)) (v := (.int .i64 (((andN many 65535) : Nat) : Int))) rfl rfl rfl rfl ?_
            have hm13 := andN_le (((andN many 65535) : Nat) : Int) 3 (by decide)
            refine OA.pure (dst := (some 94)) (v := (.int .i64 (((andN (((andN many 65535) : Nat) : Int) 3) : Nat) : Int))) rfl rfl rfl (r_bin rfl rfl rfl (b_andN (((andN many 65535) : Nat) : Int) 3 (by decide))) ?_
            refine OA.pure (dst := (some 95)) (v := (.bool false)) rfl rfl rfl (r_bin rfl rfl rfl (b_neq (decide_eq_false (fun h => h rfl)))) ?_
            refine OA.pure (dst := (some 96)) (v := (.bool false)) rfl rfl rfl rfl ?_
            refine OA.pure (dst := (some 97)) (v := (.bool false)) rfl rfl rfl rfl ?_
            refine OA.pure (dst := (some 98)) (v := (.bool false)) rfl rfl rfl rfl ?_
            refine OA.nil ?_
            intro _
            refine RA.rebase [(0, (.agg ⟨[(.int .i64 typ), (.string v)]⟩)), (1, (W id)), (2, (.int .i64 many)), (3, (.pointer (some ⟨n, 0, some 0⟩))), (6, (.bool false)), (7, (.pointer (some ⟨(n + 1), 0, some 0⟩))), (8, (.int .i64 (((andN many 65535) : Nat) : Int))), (9, (W id)), (10, (.int .i64 (((andN many 65535) : Nat) : Int))), (11, (.bool true)), (12, (W id)), (13, (.int .i64 (((andN (((andN many 65535) : Nat) : Int) 3) : Nat) : Int))), (14, (.bool true)), (98, (.bool false))] ⟨rfl, rfl, rfl, rfl, rfl, rfl, rfl, rfl, rfl, rfl, rfl, rfl, rfl, rfl, trivial⟩ (fun τr14 => ?_)
            refine RA.cond (t := false) rfl (fun hc => ?_) (fun hc => ?_)
            · cases hc
            ·
              refine RA.skip env_ok ?_
              intro _
              refine RA.weaken (D' := [((n + 1), some ⟨[[(.int .i64 typ), (.string (v.extract 0 (min v.size 12)))]], 2, 35, true⟩)]) hd (Less.of (by simp only [List.forall_mem_cons, List.not_mem_nil, false_imp_iff, implies_true, and_true]; exact ⟨by simp only [keys, List.cons_append, List.nil_append, List.map_cons, List.map_nil, List.mem_cons, true_or, or_true], fun _ => (get_here).trans (get_here).symm⟩) (by intro x hx; simp only [keys, List.cons_append, List.nil_append, List.map_cons, List.map_nil, List.mem_cons, List.not_mem_nil, or_false, false_or] at hx ⊢; omega)) ?_
              refine RA.rebase [(7, (.pointer (some ⟨(n + 1), 0, some 0⟩)))] ⟨rfl, trivial⟩ (fun τr => ?_)
              exact suf hd typ (v.extract 0 (min v.size 12)) (by rw [size_cut _ _ _ (by omega)]; omega) n8 (by omega) τr
          ·
            refine OA.pure (dst := (some 81)) (v := (.bool false)) rfl rfl rfl (Eq.trans (r_bin rfl rfl rfl (b_eql rfl)) (by first | (rw [decide_eq_false hc5]; done) | (rw [decide_eq_false hc5]; rfl))) ?_
            refine OA.pure (dst := (some 82)) (v := (.bool false)) rfl rfl rfl rfl ?_
            refine OA.pure (dst := (some 83)) (v := (.bool true)) rfl rfl rfl rfl ?_
            refine OA.pure (dst := (some 84)) (v := (.bool true)) rfl rfl rfl rfl ?_
            refine OA.pure (dst := (some 85)) (v := (.bool true)) rfl rfl rfl rfl ?_
            refine OA.off (dst := (some 86)) rfl rfl rfl ?_
            refine OA.off (dst := (some 87)) rfl rfl rfl ?_
            refine OA.off (dst := (some 88)) rfl rfl rfl ?_
            refine OA.off (dst := (some 89)) rfl rfl rfl ?_
            refine OA.off (dst := (some 90)) rfl rfl rfl ?_
            refine OA.off (dst := (some 91)) rfl rfl rfl ?_
            refine OA.off (dst := (some 92)) rfl rfl rfl ?_
            refine OA.off (dst := (some 93)) rfl rfl rfl ?_
            refine OA.off (dst := (some 94)) rfl rfl rfl ?_
            refine OA.off (dst := (some 95)) rfl rfl rfl ?_
            refine OA.off (dst := (some 96)) rfl rfl rfl ?_
            refine OA.off (dst := (some 97)) rfl rfl rfl ?_
            refine OA.pure (dst := (some 98)) (v := (.bool true)) rfl rfl rfl rfl ?_
            refine OA.nil ?_
            intro _
            refine RA.rebase [(0, (.agg ⟨[(.int .i64 typ), (.string v)]⟩)), (1, (W id)), (2, (.int .i64 many)), (3, (.pointer (some ⟨n, 0, some 0⟩))), (6, (.bool false)), (7, (.pointer (some ⟨(n + 1), 0, some 0⟩))), (8, (.int .i64 (((andN many 65535) : Nat) : Int))), (9, (W id)), (10, (.int .i64 (((andN many 65535) : Nat) : Int))), (11, (.bool true)), (12, (W id)), (13, (.int .i64 (((andN (((andN many 65535) : Nat) : Int) 3) : Nat) : Int))), (14, (.bool true)), (98, (.bool true))] ⟨rfl, rfl, rfl, rfl, rfl, rfl, rfl, rfl, rfl, rfl, rfl, rfl, rfl, rfl, trivial⟩ (fun τr15 => ?_)
            refine RA.cond (t := true) rfl (fun hc => ?_) (fun hc => ?_)
            ·
              refine RA.seq hd ?_
              refine RA.region env_ok ?_
              refine OA.pure (dst := (some 6)) (v := (.bool false)) rfl rfl rfl rfl ?_
              refine OA.nil ?_
              intro _
              refine RA.ret env_ok ?_
              refine ⟨.inr rfl, [(.bool false)], (resL_cons rfl resL_nil), (by exfalso; omega), (by intro i hi; simp only [keys, List.cons_append, List.nil_append, List.map_cons, List.map_nil, List.mem_cons, List.not_mem_nil, or_false, false_or] at hi; omega)⟩
            · cases hc
      ·
        refine OA.pure (dst := (some 57)) (v := (.bool false)) rfl rfl rfl (Eq.trans (r_bin rfl rfl rfl (b_gtr rfl)) (by first | (rw [decide_eq_false hc3]; done) | (rw [decide_eq_false hc3]; rfl))) ?_
        refine OA.pure (dst := (some 58)) (v := (.bool true)) rfl rfl rfl rfl ?_
        refine OA.pure (dst := (some 59)) (v := (.bool true)) rfl rfl rfl rfl ?_
        refine OA.pure (dst := (some 60)) (v := (.bool true)) rfl rfl rfl rfl ?_
        refine OA.off (dst := (some 61)) rfl rfl rfl ?_
        refine OA.off (dst := (some 62)) rfl rfl rfl ?_
        refine OA.off (dst := (some 63)) rfl rfl rfl ?_
        refine OA.off (dst := (some 64)) rfl rfl rfl ?_
        refine OA.off (dst := (some 65)) rfl rfl rfl ?_
        refine OA.off (dst := (some 66)) rfl rfl rfl ?_
        refine OA.off (dst := (some 67)) rfl rfl rfl ?_
        refine OA.off (dst := (some 68)) rfl rfl rfl ?_
        refine OA.off (dst := (some 69)) rfl rfl rfl ?_
        refine OA.off (dst := (some 70)) rfl rfl rfl ?_
        refine OA.off (dst := (some 71)) rfl rfl rfl ?_
        refine OA.pure (dst := (some 72)) (v := (.bool true)) rfl rfl rfl rfl ?_
        refine OA.pure (dst := (some 73)) (v := (.bool true)) rfl rfl rfl rfl ?_
        refine OA.off (dst := (some 74)) rfl rfl rfl ?_
        refine OA.off (dst := (some 75)) rfl rfl rfl ?_
        refine OA.off (dst := (some 76)) rfl rfl rfl ?_
        refine OA.off (dst := (some 77)) rfl rfl rfl ?_
        refine OA.off (dst := (some 78)) rfl rfl rfl ?_
        refine OA.off (dst := (some 79)) rfl rfl rfl ?_
        refine OA.off (dst := (some 80)) rfl rfl rfl ?_
        refine OA.off (dst := (some 81)) rfl rfl rfl ?_
        refine OA.off (dst := (some 82)) rfl rfl rfl ?_
        refine OA.off (dst := (some 83)) rfl rfl rfl ?_
        refine OA.pure (dst := (some 84)) (v := (.bool true)) rfl rfl rfl rfl ?_
        refine OA.pure (dst := (some 85)) (v := (.bool true)) rfl rfl rfl rfl ?_
        refine OA.off (dst := (some 86)) rfl rfl rfl ?_
        refine OA.off (dst := (some 87)) rfl rfl rfl ?_
        refine OA.off (dst := (some 88)) rfl rfl rfl ?_
        refine OA.off (dst := (some 89)) rfl rfl rfl ?_
        refine OA.off (dst := (some 90)) rfl rfl rfl ?_
        refine OA.off (dst := (some 91)) rfl rfl rfl ?_
        refine OA.off (dst := (some 92)) rfl rfl rfl ?_
        refine OA.off (dst := (some 93)) rfl rfl rfl ?_
        refine OA.off (dst := (some 94)) rfl rfl rfl ?_
        refine OA.off (dst := (some 95)) rfl rfl rfl ?_
        refine OA.off (dst := (some 96)) rfl rfl rfl ?_
        refine OA.off (dst := (some 97)) rfl rfl rfl ?_
        refine OA.pure (dst := (some 98)) (v := (.bool true)) rfl rfl rfl rfl ?_
        refine OA.nil ?_
        intro _
        refine RA.rebase [(0, (.agg ⟨[(.int .i64 typ), (.string v)]⟩)), (1, (W id)), (2, (.int .i64 many)), (3, (.pointer (some ⟨n, 0, some 0⟩))), (6, (.bool false)), (7, (.pointer (some ⟨(n + 1), 0, some 0⟩))), (8, (.int .i64 (((andN many 65535) : Nat) : Int))), (9, (W id)), (10, (.int .i64 (((andN many 65535) : Nat) : Int))), (11, (.bool true)), (12, (W id)), (13, (.int .i64 (((andN (((andN many 65535) : Nat) : Int) 3) : Nat) : Int))), (14, (.bool true)), (98, (.bool true))] ⟨rfl, rfl, rfl, rfl, rfl, rfl, rfl, rfl, rfl, rfl, rfl, rfl, rfl, rfl, trivial⟩ (fun τr16 => ?_)
        refine RA.cond (t := true) rfl (fun hc => ?_) (fun hc => ?_)
        ·
          refine RA.seq hd ?_
          refine RA.region env_ok ?_
          refine OA.pure (dst := (some 6)) (v := (.bool false)) rfl rfl rfl rfl ?_
          refine OA.nil ?_
          intro _
          refine RA.ret env_ok ?_
          refine ⟨.inr rfl, [(.bool false)], (resL_cons rfl resL_nil), (by exfalso; omega), (by intro i hi; simp only [keys, List.cons_append, List.nil_append, List.map_cons, List.map_nil, List.mem_cons, List.not_mem_nil, or_false, false_or] at hi; omega)⟩
        · cases hc
    ·
      refine OA.callP (dst := (some 48)) (all := [(.agg ⟨[(.int .i64 16), (.string (resV id (BitVec.ofNat 32 (andN (((andN many 65535) : Nat) : Int) 3))))]⟩)]) (v := (.tuple ⟨[(W 0#32), (.int .i64 0), (.bool false)]⟩)) (hd.of (by omega) (by intro i hi; simp only [keys, List.cons_append, List.nil_append, List.map_cons, List.map_nil, List.mem_cons, List.not_mem_nil, or_false, false_or] at hi; omega)) rfl rfl rfl rfl rfl rfl rfl rfl (sRR0 _ _ (by omega) hc2) ?_
      intro n17 hn17
      refine OA.pure (dst := (some 43)) (v := (.tuple ⟨[(W 0#32), (.int .i64 0), (.bool false)]⟩)) rfl rfl rfl rfl ?_
      refine OA.pure (dst := (some 49)) (v := (W 0#32)) rfl rfl rfl rfl ?_
      refine OA.pure (dst := (some 50)) (v := (.int .i64 0)) rfl rfl rfl rfl ?_
      refine OA.pure (dst := (some 51)) (v := (.bool false)) rfl rfl rfl rfl ?_
      refine OA.pure (dst := (some 12)) (v := (W 0#32)) rfl rfl rfl rfl ?_
      refine OA.pure (dst := (some 13)) (v := (.int .i64 0)) rfl rfl rfl rfl ?_
      refine OA.pure (dst := (some 14)) (v := (.bool false)) rfl rfl rfl rfl ?_
      refine OA.nil ?_
      intro _
      refine RA.seq hd ?_
      refine RA.seq hd ?_
      refine RA.region env_ok ?_
      refine OA.callP (dst := (some 52)) (all := []) (v := (.bool true)) (hd.of (by omega) (by intro i hi; simp only [keys, List.cons_append, List.nil_append, List.map_cons, List.map_nil, List.mem_cons, List.not_mem_nil, or_false, false_or] at hi; omega)) rfl rfl rfl rfl rfl rfl rfl rfl awake ?_
      intro n18 hn18
      refine OA.pure (dst := (some 53)) (v := (.bool false)) rfl rfl rfl rfl ?_
      refine OA.pure (dst := (some 54)) (v := (.bool false)) rfl rfl rfl rfl ?_
      refine OA.pure (dst := (some 55)) (v := (.bool true)) rfl rfl rfl rfl ?_
      refine OA.pure (dst := (some 56)) (v := (.int .i64 (((andN many 65535) : Nat) : Int))) rfl rfl rfl rfl ?_
      by_cases hc6 : 0 < (((andN many 65535) : Nat) : Int)
      ·
        refine OA.pure (dst := (some 57)) (v := (.bool true)) rfl rfl rfl (Eq.trans (r_bin rfl rfl rfl (b_gtr rfl)) (by first | (rw [decide_eq_true hc6]; done) | (rw [decide_eq_true hc6]; rfl))) ?_
        refine OA.pure (dst := (some 58)) (v := (.bool false)) rfl rfl rfl rfl ?_
        refine OA.pure (dst := (some 59)) (v := (.bool false)) rfl rfl rfl rfl ?_
        refine OA.pure (dst := (some 60)) (v := (.bool false)) rfl rfl rfl rfl ?_
        refine OA.pure (dst := (some 61)) (v := (.bool true)) rfl rfl rfl rfl ?_
        refine OA.pure (dst := (some 62)) (v := (.bool true)) rfl rfl rfl rfl ?_
        refine OA.pure (dst := (some 63)) (v := (W id)) rfl rfl rfl rfl ?_
        refine OA.pure (dst := (some 64)) (v := (W id)) rfl rfl rfl rfl ?_
        refine OA.pure (dst := (some 65)) (v := (.bool false)) rfl rfl rfl (r_bin rfl rfl rfl (b_neq (decide_eq_false (fun h => h rfl)))) ?_
        refine OA.pure (dst := (some 66)) (v := (.bool false)) rfl rfl rfl rfl ?_
        refine OA.pure (dst := (some 67)) (v := (.int .i64 (((andN many 65535) : Nat) : Int))) rfl rfl rfl rfl ?_
        refine OA.pure (dst := (some 68)) (v := (.int .i64 (((andN many 65535) : Nat) : Int))) rfl rfl rfl rfl ?_
        refine OA.pure (dst := (some 69)) (v := (.bool false)) rfl rfl rfl (r_bin rfl rfl rfl (b_neq (decide_eq_false (fun h => h rfl)))) ?_
        refine OA.pure (dst := (some 70)) (v := (.bool false)) rfl rfl rfl rfl ?_
        refine OA.pure (dst := (some 71)) (v := (.bool false)) rfl rfl rfl rfl ?_
        refine OA.pure (dst := (some 72)) (v := (.bool false)) rfl rfl rfl rfl ?_
        refine OA.pure (dst := (some 73)) (v := (.bool false)) rfl rfl rfl rfl ?_
        refine OA.pure (dst := (some 74)) (v := (.bool false)) rfl rfl rfl rfl ?_
        refine OA.pure (dst := (some 75)) (v := (.int .i64 (((andN many 65535) : Nat) : Int))) rfl rfl rfl rfl ?_
        have hm19 := andN_le (((andN many 65535) : Nat) : Int) 3 (by decide)
        refine OA.pure (dst := (some 76)) (v := (.int .i64 (((andN (((andN many 65535) : Nat) : Int) 3) : Nat) : Int))) rfl rfl rfl (r_bin rfl rfl rfl (b_andN (((andN many 65535) : Nat) : Int) 3 (by decide))) ?_
        by_cases hc7 : (((andN (((andN many 65535) : Nat) : Int) 3) : Nat) : Int) = 1
        ·
          refine OA.pure (dst := (some 77)) (v := (.bool true)) rfl rfl rfl (Eq.trans (r_bin rfl rfl rfl (b_eql rfl)) (by first | (rw [decide_eq_true hc7]; done) | (rw [decide_eq_true hc7]; rfl))) ?_
          refine OA.pure (dst := (some 78)) (v := (.bool true)) rfl rfl rfl rfl ?_
          refine OA.off (dst := (some 79)) rfl rfl rfl ?_
          refine OA.off (dst := (some 80)) rfl rfl rfl ?_
          refine OA.off (dst := (some 81)) rfl rfl rfl ?_
          refine OA.pure (dst := (some 82)) (v := (.bool true)) rfl rfl rfl rfl ?_
          refine OA.pure (dst := (some 83)) (v := (.bool true)) rfl rfl rfl rfl ?_
          refine OA.pure (dst := (some 84)) (v := (.bool true)) rfl rfl rfl rfl ?_
          refine OA.pure (dst := (some 85)) (v := (.bool true)) rfl rfl rfl rfl ?_
          refine OA.off (dst := (some 86)) rfl rfl rfl ?_
          refine OA.off (dst := (some 87)) rfl rfl rfl ?_
          refine OA.off (dst := (some 88)) rfl rfl rfl ?_
          refine OA.off (dst := (some 89)) rfl rfl rfl ?_
          refine OA.off (dst := (some 90)) rfl rfl rfl ?_
          refine OA.off (dst := (some 91)) rfl rfl rfl ?_
          refine OA.off (dst := (some 92)) rfl rfl rfl ?_
          refine OA.off (dst := (some 93)) rfl rfl rfl ?_
          refine OA.off (dst := (some 94)) rfl rfl rfl ?_
          refine OA.off (dst := (some 95)) rfl rfl rfl ?_
          refine OA.off (dst := (some 96)) rfl rfl rfl ?_
          refine OA.off (dst := (some 97)) rfl rfl rfl ?_
          refine OA.pure (dst := (some 98)) (v := (.bool true)) rfl rfl rfl rfl ?_
          refine OA.nil ?_
          intro _
          refine RA.rebase [(0, (.agg ⟨[(.int .i64 typ), (.string v)]⟩)), (1, (W id)), (2, (.int .i64 many)), (3, (.pointer (some ⟨n, 0, some 0⟩))), (6, (.bool false)), (7, (.pointer (some ⟨(n + 1), 0, some 0⟩))), (8, (.int .i64 (((andN many 65535) : Nat) : Int))), (9, (W id)), (10, (.int .i64 (((andN many 65535) : Nat) : Int))), (11, (.bool true)), (12, (W 0#32)), (13, (.int .i64 0)), (14, (.bool false)), (98, (.bool true))] ⟨rfl, rfl, rfl, rfl, rfl, rfl, rfl, rfl, rfl, rfl, rfl, rfl, rfl, rfl, trivial⟩ (fun τr20 => ?_)
          refine RA.cond (t := true) rfl (fun hc => ?_) (fun hc => ?_)
          ·
            refine RA.seq hd ?_
            refine RA.region env_ok ?_
            refine OA.pure (dst := (some 6)) (v := (.bool false)) rfl rfl rfl rfl ?_
            refine OA.nil ?_
            intro _
            refine RA.ret env_ok ?_
            refine ⟨.inr rfl, [(.bool false)], (resL_cons rfl resL_nil), (by exfalso; omega), (by intro i hi; simp only [keys, List.cons_append, List.nil_append, List.map_cons, List.map_nil, List.mem_cons, List.not_mem_nil, or_false, false_or] at hi; omega)⟩
          · cases hc
        ·
          refine OA.pure (dst := (some 77)) (v := (.bool false)) rfl rfl rfl (Eq.trans (r_bin rfl rfl rfl (b_eql rfl)) (by first | (rw [decide_eq_false hc7]; done) | (rw [decide_eq_false hc7]; rfl))) ?_
          refine OA.pure (dst := (some 78)) (v := (.bool false)) rfl rfl rfl rfl ?_
          refine OA.pure (dst := (some 79)) (v := (.int .i64 (((andN many 65535) : Nat) : Int))) rfl rfl rfl rfl ?_
          have hm21 := andN_le (((andN many 65535) : Nat) : Int) 3 (by decide)
          refine OA.pure (dst := (some 80)) (v := (.int .i64 (((andN (((andN many 65535) : Nat) : Int) 3) : Nat) : Int))) rfl rfl rfl (r_bin rfl rfl rfl (b_andN (((andN many 65535) : Nat) : Int) 3 (by decide))) ?_
          by_cases hc8 : (((andN (((andN many 65535) : Nat) : Int) 3) : Nat) : Int) = 2
          ·
            refine OA.pure (dst := (some 81)) (v := (.bool true)) rfl rfl rfl (Eq.trans (r_bin rfl rfl rfl (b_eql rfl)) (by first | (rw [decide_eq_true hc8]; done) | (rw [decide_eq_true hc8]; rfl))) ?_
            refine OA.pure (dst := (some 82)) (v := (.bool true)) rfl rfl rfl rfl ?_
            refine OA.pure (dst := (some 83)) (v := (.bool true)) rfl rfl rfl rfl ?_
            refine OA.pure (dst := (some 84)) (v := (.bool true)) rfl rfl rfl rfl ?_
            refine OA.pure (dst := (some 85)) (v := (.bool true)) rfl rfl rfl rfl ?_
            refine OA.off (dst := (some 86)) rfl rfl rfl ?_
            refine OA.off (dst := (some 87)) rfl rfl rfl ?_
            refine OA.off (dst := (some 88)) rfl rfl rfl ?_
            refine OA.off (dst := (some 89)) rfl rfl rfl ?_
            refine OA.off (dst := (some 90)) rfl rfl rfl ?_
            refine OA.off (dst := (some 91)) rfl rfl rfl ?_
            refine OA.off (dst := (some 92)) rfl rfl rfl ?_
            refine OA.off (dst := (some 93)) rfl rfl rfl ?_
            refine OA.off (dst := (some 94)) rfl rfl rfl ?_
            refine OA.off (dst := (some 95)) rfl rfl rfl ?_
            refine OA.off (dst := (some 96)) rfl rfl rfl ?_
            refine OA.off (dst := (some 97)) rfl rfl rfl ?_
            refine OA.pure (dst := (some 98)) (v := (.bool true)) rfl rfl rfl rfl ?_
            refine OA.nil ?_
            intro _
            refine RA.rebase [(0, (.agg ⟨[(.int .i64 typ), (.string v)]⟩)), (1, (W id)), (2, (.int .i64 many)), (3, (.pointer (some ⟨n, 0, some 0⟩))), (6, (.bool false)), (7, (.pointer (some ⟨(n + 1), 0, some 0⟩))), (8, (.int .i64 (((andN many 65535) : Nat) : Int))), (9, (W id)), (10, (.int .i64 (((andN many 65535) : Nat) : Int))), (11, (.bool true)), (12, (W 0#32)), (13, (.int .i64 0)), (14, (.bool false)), (98, (.bool true))] ⟨rfl, rfl, rfl, rfl, rfl, rfl, rfl, rfl, rfl, rfl, rfl, rfl, rfl, rfl, trivial⟩ (fun τr22 => ?_)
            refine RA.cond (t := true) rfl (fun hc => ?_) (fun hc => ?_)
            ·
              refine RA.seq hd ?_
              refine RA.region env_ok ?_
              refine OA.pure (dst := (some 6)) (v := (.bool false)) rfl rfl rfl rfl ?_
              refine OA.nil ?_
              intro _
              refine RA.ret env_ok ?_
              refine ⟨.inr rfl, [(.bool false)], (resL_cons rfl resL_nil), (by exfalso; omega), (by intro i hi; simp only [keys, List.cons_append, List.nil_append, List.map_cons, List.map_nil, List.mem_cons, List.not_mem_nil, or_false, false_or] at hi; omega)⟩
            · cases hc
          ·
            refine OA.pure (dst := (some 81)) (v := (.bool false)) rfl rfl rfl (Eq.trans (r_bin rfl rfl rfl (b_eql rfl)) (by first | (rw [decide_eq_false hc8]; done) | (rw [decide_eq_false hc8]; rfl))) ?_
            refine OA.pure (dst := (some 82)) (v := (.bool false)) rfl rfl rfl rfl ?_
            refine OA.pure (dst := (some 83)) (v := (.bool false)) rfl rfl rfl rfl ?_
            refine OA.pure (dst := (some 84)) (v := (.bool false)) rfl rfl rfl rfl ?_
            refine OA.pure (dst := (some 85)) (v := (.bool false)) rfl rfl rfl rfl ?_
            refine OA.pure (dst := (some 86)) (v := (.bool false)) rfl rfl rfl rfl ?_
            refine OA.pure (dst := (some 87)) (v := (.bool false)) rfl rfl rfl rfl ?_
            refine OA.off (dst := (some 88)) rfl rfl rfl ?_
            refine OA.off (dst := (some 89)) rfl rfl rfl ?_
            refine OA.off (dst := (some 90)) rfl rfl rfl ?_
            refine OA.off (dst := (some 91)) rfl rfl rfl ?_
            refine OA.off (dst := (some 92)) rfl rfl rfl ?_
            refine OA.off (dst := (some 93)) rfl rfl rfl ?_
            refine OA.off (dst := (some 94)) rfl rfl rfl ?_
            refine OA.off (dst := (some 95)) rfl rfl rfl ?_
            refine OA.off (dst := (some 96)) rfl rfl rfl ?_
            refine OA.pure (dst := (some 97)) (v := (.bool false)) rfl rfl rfl rfl ?_
            refine OA.pure (dst := (some 98)) (v := (.bool false)) rfl rfl rfl rfl ?_
            refine OA.nil ?_
            intro _
            refine RA.rebase [(0, (.agg ⟨[(.int .i64 typ), (.string v)]⟩)), (1, (W id)), (2, (.int .i64 many)), (3, (.pointer (some ⟨n, 0, some 0⟩))), (6, (.bool false)), (7, (.pointer (some ⟨(n + 1), 0, some 0⟩))), (8, (.int .i64 (((andN many 65535) : Nat) : Int))), (9, (W id)), (10, (.int .i64 (((andN many 65535) : Nat) : Int))), (11, (.bool true)), (12, (W 0#32)), (13, (.int .i64 0)), (14, (.bool false)), (98, (.bool false))] ⟨rfl, rfl, rfl, rfl, rfl, rfl, rfl, rfl, rfl, rfl, rfl, rfl, rfl, rfl, trivial⟩ (fun τr23 => ?_)
            refine RA.cond (t := false) rfl (fun hc => ?_) (fun hc => ?_)
            · cases hc
            ·
              refine RA.skip env_ok ?_
              intro _
              refine RA.weaken (D' := [((n + 1), some ⟨[[(.int .i64 typ), (.string (v.extract 0 (min v.size 12)))]], 2, 35, true⟩)]) hd (Less.of (by simp only [List.forall_mem_cons, List.not_mem_nil, false_imp_iff, implies_true, and_true]; exact ⟨by simp only [keys, List.cons_append, List.nil_append, List.map_cons, List.map_nil, List.mem_cons, true_or, or_true], fun _ => (get_here).trans (get_here).symm⟩) (by intro x hx; simp only [keys, List.cons_append, List.nil_append, List.map_cons, List.map_nil, List.mem_cons, List.not_mem_nil, or_false, false_or] at hx ⊢; omega)) ?_
              refine RA.rebase [(7, (.pointer (some ⟨(n + 1), 0, some 0⟩)))] ⟨rfl, trivial⟩ (fun τr => ?_)
              exact suf hd typ (v.extract 0 (min v.size 12)) (by rw [size_cut _ _ _ (by omega)]; omega) n18 (by omega) τr
      ·
        refine OA.pure (dst := (some 57)) (v := (.bool false)) rfl rfl rfl (Eq.trans (r_bin rfl rfl rfl (b_gtr rfl)) (by first | (rw [decide_eq_false hc6]; done) | (rw [decide_eq_false hc6]; rfl))) ?_
        refine OA.pure (dst := (some 58)) (v := (.bool true)) rfl rfl rfl rfl ?_
        refine OA.pure (dst := (some 59)) (v := (.bool true)) rfl rfl rfl rfl ?_
        refine OA.pure (dst := (some 60)) (v := (.bool true)) rfl rfl rfl rfl ?_
        refine OA.off (dst := (some 61)) rfl rfl rfl ?_
        refine OA.off (dst := (some 62)) rfl rfl rfl ?_
        refine OA.off (dst := (some 63)) rfl rfl rfl ?_
        refine OA.off (dst := (some 64)) rfl rfl rfl ?_
        refine OA.off (dst := (some 65)) rfl rfl rfl ?_
        refine OA.off (dst := (some 66)) rfl rfl rfl ?_
        refine OA.off (dst := (some 67)) rfl rfl rfl ?_
        refine OA.off (dst := (some 68)) rfl rfl rfl ?_
        refine OA.off (dst := (some 69)) rfl rfl rfl ?_
        refine OA.off (dst := (some 70)) rfl rfl rfl ?_
        refine OA.off (dst := (some 71)) rfl rfl rfl ?_
        refine OA.pure (dst := (some 72)) (v := (.bool true)) rfl rfl rfl rfl ?_
        refine OA.pure (dst := (some 73)) (v := (.bool true)) rfl rfl rfl rfl ?_
        refine OA.off (dst := (some 74)) rfl rfl rfl ?_
        refine OA.off (dst := (some 75)) rfl rfl rfl ?_
        refine OA.off (dst := (some 76)) rfl rfl rfl ?_
        refine OA.off (dst := (some 77)) rfl rfl rfl ?_
        refine OA.off (dst := (some 78)) rfl rfl rfl ?_
        refine OA.off (dst := (some 79)) rfl rfl rfl ?_
        refine OA.off (dst := (some 80)) rfl rfl rfl ?_
        refine OA.off (dst := (some 81)) rfl rfl rfl ?_
        refine OA.off (dst := (some 82)) rfl rfl rfl ?_
        refine OA.off (dst := (some 83)) rfl rfl rfl ?_
        refine OA.pure (dst := (some 84)) (v := (.bool true)) rfl rfl rfl rfl ?_
        refine OA.pure (dst := (some 85)) (v := (.bool true)) rfl rfl rfl rfl ?_
        refine OA.off (dst := (some 86)) rfl rfl rfl ?_
        refine OA.off (dst := (some 87)) rfl rfl rfl ?_
        refine OA.off (dst := (some 88)) rfl rfl rfl ?_
        refine OA.off (dst := (some 89)) rfl rfl rfl ?_
        refine OA.off (dst := (some 90)) rfl rfl rfl ?_
        refine OA.off (dst := (some 91)) rfl rfl rfl ?_
        refine OA.off (dst := (some 92)) rfl rfl rfl ?_
        refine OA.off (dst := (some 93)) rfl rfl rfl ?_
        refine OA.off (dst := (some 94)) rfl rfl rfl ?_
        refine OA.off (dst := (some 95)) rfl rfl rfl ?_
        refine OA.off (dst := (some 96)) rfl rfl rfl ?_
        refine OA.off (dst := (some 97)) rfl rfl rfl ?_
        refine OA.pure (dst := (some 98)) (v := (.bool true)) rfl rfl rfl rfl ?_
        refine OA.nil ?_
        intro _
        refine RA.rebase [(0, (.agg ⟨[(.int .i64 typ), (.string v)]⟩)), (1, (W id)), (2, (.int .i64 many)), (3, (.pointer (some ⟨n, 0, some 0⟩))), (6, (.bool false)), (7, (.pointer (some ⟨(n + 1), 0, some 0⟩))), (8, (.int .i64 (((andN many 65535) : Nat) : Int))), (9, (W id)), (10, (.int .i64 (((andN many 65535) : Nat) : Int))), (11, (.bool true)), (12, (W 0#32)), (13, (.int .i64 0)), (14, (.bool false)), (98, (.bool true))] ⟨rfl, rfl, rfl, rfl, rfl, rfl, rfl, rfl, rfl, rfl, rfl, rfl, rfl, rfl, trivial⟩ (fun τr24 => ?_)
        refine RA.cond (t := true) rfl (fun hc => ?_) (fun hc => ?_)
        ·
          refine RA.seq hd ?_
          refine RA.region env_ok ?_
          refine OA.pure (dst := (some 6)) (v := (.bool false)) rfl rfl rfl rfl ?_
          refine OA.nil ?_
          intro _
          refine RA.ret env_ok ?_
          refine ⟨.inr rfl, [(.bool false)], (resL_cons rfl resL_nil), (by exfalso; omega), (by intro i hi; simp only [keys, List.cons_append, List.nil_append, List.map_cons, List.map_nil, List.mem_cons, List.not_mem_nil, or_false, false_or] at hi; omega)⟩
        · cases hc
  ·
    refine OA.callP (dst := (some 39)) (all := [(.agg ⟨[(.int .i64 17), (.string (moreV id (andN many 65535)))]⟩)]) (v := (.tuple ⟨[(W 0#32), (.int .i64 0), (.bool false)]⟩)) (hd.of (by omega) (by intro i hi; simp only [keys, List.cons_append, List.nil_append, List.map_cons, List.map_nil, List.mem_cons, List.not_mem_nil, or_false, false_or] at hi; omega)) rfl rfl rfl rfl rfl rfl rfl rfl (sMM0 _ _ (by omega) hc1) ?_
    intro n25 hn25
    refine OA.pure (dst := (some 35)) (v := (.tuple ⟨[(W 0#32), (.int .i64 0), (.bool false)]⟩)) rfl rfl rfl rfl ?_
    refine OA.pure (dst := (some 40)) (v := (W 0#32)) rfl rfl rfl rfl ?_
    refine OA.pure (dst := (some 41)) (v := (.int .i64 0)) rfl rfl rfl rfl ?_
    refine OA.pure (dst := (some 42)) (v := (.bool false)) rfl rfl rfl rfl ?_
    refine OA.pure (dst := (some 9)) (v := (W 0#32)) rfl rfl rfl rfl ?_
    refine OA.pure (dst := (some 10)) (v := (.int .i64 0)) rfl rfl rfl rfl ?_
    refine OA.pure (dst := (some 11)) (v := (.bool false)) rfl rfl rfl rfl ?_
    refine OA.nil ?_
    intro _
    refine RA.rebase [(0, (.agg ⟨[(.int .i64 typ), (.string v)]⟩)), (1, (W id)), (2, (.int .i64 many)), (3, (.pointer (some ⟨n, 0, some 0⟩))), (6, (.bool false)), (7, (.pointer (some ⟨(n + 1), 0, some 0⟩))), (8, (.int .i64 (((andN many 65535) : Nat) : Int))), (9, (W 0#32)), (10, (.int .i64 0)), (11, (.bool false))] ⟨rfl, rfl, rfl, rfl, rfl, rfl, rfl, rfl, rfl, rfl, trivial⟩ (fun τr26 => ?_)
    refine RA.seq hd ?_
    refine RA.region env_ok ?_
    refine OA.pure (dst := (some 44)) (v := (W id)) rfl rfl rfl rfl ?_
    refine OA.pure (dst := (some 45)) (v := (.int .i64 (((andN many 65535) : Nat) : Int))) rfl rfl rfl rfl ?_
    have hm27 := andN_le (((andN many 65535) : Nat) : Int) 3 (by decide)
    refine OA.pure (dst := (some 46)) (v := (.int .i64 (((andN (((andN many 65535) : Nat) : Int) 3) : Nat) : Int))) rfl rfl rfl (r_bin rfl rfl rfl (b_andN (((andN many 65535) : Nat) : Int) 3 (by decide))) ?_
    refine OA.callP (dst := (some 47)) (all := [(W id), (.int .i64 (((andN (((andN many 65535) : Nat) : Int) 3) : Nat) : Int))]) (v := (.agg ⟨[(.int .i64 16), (.string (resV id (BitVec.ofNat 32 (andN (((andN many 65535) : Nat) : Int) 3))))]⟩)) (hd.of (by omega) (by intro i hi; simp only [keys, List.cons_append, List.nil_append, List.map_cons, List.map_nil, List.mem_cons, List.not_mem_nil, or_false, false_or] at hi; omega)) rfl rfl rfl rfl rfl rfl rfl rfl (sRes _ _ (by omega)) ?_
    intro n28 hn28
    by_cases hc9 : ((andN (((andN many 65535) : Nat) : Int) 3) = 1 ∨ (andN (((andN many 65535) : Nat) : Int) 3) = 2)
    ·
      refine OA.callP (dst := (some 48)) (all := [(.agg ⟨[(.int .i64 16), (.string (resV id (BitVec.ofNat 32 (andN (((andN many 65535) : Nat) : Int) 3))))]⟩)]) (v := (.tuple ⟨[(W id), (.int .i64 (((andN (((andN many 65535) : Nat) : Int) 3) : Nat) : Int)), (.bool true)]⟩)) (hd.of (by omega) (by intro i hi; simp only [keys, List.cons_append, List.nil_append, List.map_cons, List.map_nil, List.mem_cons, List.not_mem_nil, or_false, false_or] at hi; omega)) rfl rfl rfl rfl rfl rfl rfl rfl (sRR1 _ _ (by omega) hc9) ?_
      intro n29 hn29
      refine OA.pure (dst := (some 43)) (v := (.tuple ⟨[(W id), (.int .i64 (((andN (((andN many 65535) : Nat) : Int) 3) : Nat) : Int)), (.bool true)]⟩)) rfl rfl rfl rfl ?_
      refine OA.pure (dst := (some 49)) (v := (W id)) rfl rfl rfl rfl ?_
      refine OA.pure (dst := (some 50)) (v := (.int .i64 (((andN (((andN many 65535) : Nat) : Int) 3) : Nat) : Int))) rfl rfl rfl rfl ?_
      refine OA.pure (dst := (some 51)) (v := (.bool true)) rfl rfl rfl rfl ?_
      refine OA.pure (dst := (some 12)) (v := (W id)) rfl rfl rfl rfl ?_
      refine OA.pure (dst := (some 13)) (v := (.int .i64 (((andN (((andN many 65535) : Nat) : Int) 3) : Nat) : Int))) rfl rfl rfl rfl ?_
      refine OA.pure (dst := (some 14)) (v := (.bool true)) rfl rfl rfl rfl ?_
      refine OA.nil ?_
      intro _
      refine RA.seq hd ?_
      refine RA.seq hd ?_
      refine RA.region env_ok ?_
      refine OA.callP (dst := (some 52)) (all := []) (v := (.bool true)) (hd.of (by omega) (by intro i hi; simp only [keys, List.cons_append, List.nil_append, List.map_cons, List.map_nil, List.mem_cons, List.not_mem_nil, or_false, false_or] at hi; omega)) rfl rfl rfl rfl rfl rfl rfl rfl awake ?_
      intro n30 hn30
      refine OA.pure (dst := (some 53)) (v := (.bool false)) rfl rfl rfl rfl ?_
      refine OA.pure (dst := (some 54)) (v := (.bool false)) rfl rfl rfl rfl ?_
      refine OA.pure (dst := (some 55)) (v := (.bool false)) rfl rfl rfl rfl ?_
      refine OA.pure (dst := (some 56)) (v := (.int .i64 (((andN many 65535) : Nat) : Int))) rfl rfl rfl rfl ?_
      by_cases hc10 : 0 < (((andN many 65535) : Nat) : Int)
      ·
        refine OA.pure (dst := (some 57)) (v := (.bool true)) rfl rfl rfl (Eq.trans (r_bin rfl rfl rfl (b_gtr rfl)) (by first | (rw [decide_eq_true hc10]; done) | (rw [decide_eq_true hc10]; rfl))) ?_
        refine OA.pure (dst := (some 58)) (v := (.bool true)) rfl rfl rfl rfl ?_
        refine OA.pure (dst := (some 59)) (v := (.bool true)) rfl rfl rfl rfl ?_
        refine OA.pure (dst := (some 60)) (v := (.bool true)) rfl rfl rfl rfl ?_
        refine OA.off (dst := (some 61)) rfl rfl rfl ?_
        refine OA.off (dst := (some 62)) rfl rfl rfl ?_
        refine OA.off (dst := (some 63)) rfl rfl rfl ?_
        refine OA.off (dst := (some 64)) rfl rfl rfl ?_
        refine OA.off (dst := (some 65)) rfl rfl rfl ?_
        refine OA.off (dst := (some 66)) rfl rfl rfl ?_
        refine OA.off (dst := (some 67)) rfl rfl rfl ?_
        refine OA.off (dst := (some 68)) rfl rfl rfl ?_
        refine OA.off (dst := (some 69)) rfl rfl rfl ?_
        refine OA.off (dst := (some 70)) rfl rfl rfl ?_
        refine OA.off (dst := (some 71)) rfl rfl rfl ?_
        refine OA.pure (dst := (some 72)) (v := (.bool true)) rfl rfl rfl rfl ?_
        refine OA.pure (dst := (some 73)) (v := (.bool true)) rfl rfl rfl rfl ?_
        refine OA.off (dst := (some 74)) rfl rfl rfl ?_
        refine OA.off (dst := (some 75)) rfl rfl rfl ?_
        refine OA.off (dst := (some 76)) rfl rfl rfl ?_
        refine OA.off (dst := (some 77)) rfl rfl rfl ?_
        refine OA.off (dst := (some 78)) rfl rfl rfl ?_
        refine OA.off (dst := (some 79)) rfl rfl rfl ?_
        refine OA.off (dst := (some 80)) rfl rfl rfl ?_
        refine OA.off (dst := (some 81)) rfl rfl rfl ?_
        refine OA.off (dst := (some 82)) rfl rfl rfl ?_
        refine OA.off (dst := (some 83)) rfl rfl rfl ?_
        refine OA.pure (dst := (some 84)) (v := (.bool true)) rfl rfl rfl rfl ?_
        refine OA.pure (dst := (some 85)) (v := (.bool true)) rfl rfl rfl rfl ?_
        refine OA.off (dst := (some 86)) rfl rfl rfl ?_
        refine OA.off (dst := (some 87)) rfl rfl rfl ?_
        refine OA.off (dst := (some 88)) rfl rfl rfl ?_
        refine OA.off (dst := (some 89)) rfl rfl rfl ?_
        refine OA.off (dst := (some 90)) rfl rfl rfl ?_
        refine OA.off (dst := (some 91)) rfl rfl rfl ?_
        refine OA.off (dst := (some 92)) rfl rfl rfl ?_
        refine OA.off (dst := (some 93)) rfl rfl rfl ?_
        refine OA.off (dst := (some 94)) rfl rfl rfl ?_
        refine OA.off (dst := (some 95)) rfl rfl rfl ?_
        refine OA.off (dst := (some 96)) rfl rfl rfl ?_
        refine OA.off (dst := (some 97)) rfl rfl rfl ?_
        refine OA.pure (dst := (some 98)) (v := (.bool true)) rfl rfl rfl rfl ?_
        refine OA.nil ?_
        intro _
        refine RA.rebase [(0, (.agg ⟨[(.int .i64 typ), (.string v)]⟩)), (1, (W id)), (2, (.int .i64 many)), (3, (.pointer (some ⟨n, 0, some 0⟩))), (6, (.bool false)), (7, (.pointer (some ⟨(n + 1), 0, some 0⟩))), (8, (.int .i64 (((andN many 65535) : Nat) : Int))), (9, (W 0#32)), (10, (.int .i64 0)), (11, (.bool false)), (12, (W id)), (13, (.int .i64 (((andN (((andN many 65535) : Nat) : Int) 3) : Nat) : Int))), (14, (.bool true)), (98, (.bool true))] ⟨rfl, rfl, rfl, rfl, rfl, rfl, rfl, rfl, rfl, rfl, rfl, rfl, rfl, rfl, trivial⟩ (fun τr31 => ?_)
        refine RA.cond (t := true) rfl (fun hc => ?_) (fun hc => ?_)
        ·
          refine RA.seq hd ?_
          refine RA.region env_ok ?_
          refine OA.pure (dst := (some 6)) (v := (.bool false)) rfl rfl rfl rfl ?_
          refine OA.nil ?_
          intro _
          refine RA.ret env_ok ?_
          refine ⟨.inr rfl, [(.bool false)], (resL_cons rfl resL_nil), (by exfalso; omega), (by intro i hi; simp only [keys, List.cons_append, List.nil_append, List.map_cons, List.map_nil, List.mem_cons, List.not_mem_nil, or_false, false_or] at hi; omega)⟩
        · cases hc
      ·
        refine OA.pure (dst := (some 57)) (v := (.bool false)) rfl rfl rfl (Eq.trans (r_bin rfl rfl rfl (b_gtr rfl)) (by first | (rw [decide_eq_false hc10]; done) | (rw [decide_eq_false hc10]; rfl))) ?_
        refine OA.pure (dst := (some 58)) (v := (.bool false)) rfl rfl rfl rfl ?_
        refine OA.pure (dst := (some 59)) (v := (.bool false)) rfl rfl rfl rfl ?_
        refine OA.pure (dst := (some 60)) (v := (.bool false)) rfl rfl rfl rfl ?_
        refine OA.pure (dst := (some 61)) (v := (.bool false)) rfl rfl rfl rfl ?_
        refine OA.pure (dst := (some 62)) (v := (.bool false)) rfl rfl rfl rfl ?_
        refine OA.off (dst := (some 63)) rfl rfl rfl ?_
        refine OA.off (dst := (some 64)) rfl rfl rfl ?_
        refine OA.off (dst := (some 65)) rfl rfl rfl ?_
        refine OA.off (dst := (some 66)) rfl rfl rfl ?_
        refine OA.off (dst := (some 67)) rfl rfl rfl ?_
        refine OA.off (dst := (some 68)) rfl rfl rfl ?_
        refine OA.off (dst := (some 69)) rfl rfl rfl ?_
        refine OA.off (dst := (some 70)) rfl rfl rfl ?_
        refine OA.pure (dst := (some 71)) (v := (.bool false)) rfl rfl rfl rfl ?_
        refine OA.pure (dst := (some 72)) (v := (.bool false)) rfl rfl rfl rfl ?_
        refine OA.pure (dst := (some 73)) (v := (.bool false)) rfl rfl rfl rfl ?_
        refine OA.pure (dst := (some 74)) (v := (.bool true)) rfl rfl rfl rfl ?_
        refine OA.pure (dst := (some 75)) (v := (.int .i64 (((andN many 65535) : Nat) : Int))) rfl rfl rfl rfl ?_
        have hm32 := andN_le (((andN many 65535) : Nat) : Int) 3 (by decide)
        refine OA.pure (dst := (some 76)) (v := (.int .i64 (((andN (((andN many 65535) : Nat) : Int) 3) : Nat) : Int))) rfl rfl rfl (r_bin rfl rfl rfl (b_andN (((andN many 65535) : Nat) : Int) 3 (by decide))) ?_
        by_cases hc11 : (((andN (((andN many 65535) : Nat) : Int) 3) : Nat) : Int) = 1
        ·
          refine OA.pure (dst := (some 77)) (v := (.bool true)) rfl rfl rfl (Eq.trans (r_bin rfl rfl rfl (b_eql rfl)) (by first | (rw [decide_eq_true hc11]; done) | (rw [decide_eq_true hc11]; rfl))) ?_
          refine OA.pure (dst := (some 78)) (v := (.bool true)) rfl rfl rfl rfl ?_
          refine OA.off (dst := (some 79)) rfl rfl rfl ?_
          refine OA.off (dst := (some 80)) rfl rfl rfl ?_
          refine OA.off (dst := (some 81)) rfl rfl rfl ?_
          refine OA.pure (dst := (some 82)) (v := (.bool true)) rfl rfl rfl rfl ?_
          refine OA.pure (dst := (some 83)) (v := (.bool false)) rfl rfl rfl rfl ?_
          refine OA.pure (dst := (some 84)) (v := (.bool false)) rfl rfl rfl rfl ?_
          refine OA.pure (dst := (some 85)) (v := (.bool false)) rfl rfl rfl rfl ?_
          refine OA.pure (dst := (some 86)) (v := (.bool true)) rfl rfl rfl rfl ?_
          refine OA.pure (dst := (some 87)) (v := (.bool true)) rfl rfl rfl rfl ?_
          refine OA.pure (dst := (some 88)) (v := (W id)) rfl rfl rfl rfl ?_
          refine OA.pure (dst := (some 89)) (v := (W id)) rfl rfl rfl rfl ?_
          refine OA.pure (dst := (some 90)) (v := (.bool false)) rfl rfl rfl (r_bin rfl rfl rfl (b_neq (decide_eq_false (fun h => h rfl)))) ?_
          refine OA.pure (dst := (some 91)) (v := (.bool false)) rfl rfl rfl rfl ?_
          refine OA.pure (dst := (some 92)) (v := (.int .i64 (((andN (((andN many 65535) : Nat) : Int) 3) : Nat) : Int))) rfl rfl rfl rfl ?_
          refine OA.pure (dst := (some 93)) (v := (.int .i64 (((andN many 65535) : Nat) : Int))) rfl rfl rfl rfl ?_
          have hm33 := andN_le (((andN many 65535) : Nat) : Int) 3 (by decide)
          refine OA.pure (dst := (some 94)) (v := (.int .i64 (((andN (((andN many 65535) : Nat) : Int) 3) : Nat) : Int))) rfl rfl rfl (r_bin rfl rfl rfl (b_andN (((andN many 65535) : Nat) : Int) 3 (by decide))) ?_
          refine OA.pure (dst := (some 95)) (v := (.bool false)) rfl rfl rfl (r_bin rfl rfl rfl (b_neq (decide_eq_false (fun h => h rfl)))) ?_
          refine OA.pure (dst := (some 96)) (v := (.bool false)) rfl rfl rfl rfl ?_
          refine OA.pure (dst := (some 97)) (v := (.bool false)) rfl rfl rfl rfl ?_
          refine OA.pure (dst := (some 98)) (v := (.bool false)) rfl rfl rfl rfl ?_
          refine OA.nil ?_
          intro _
          refine RA.rebase [(0, (.agg ⟨[(.int .i64 typ), (.string v)]⟩)), (1, (W id)), (2, (.int .i64 many)), (3, (.pointer (some ⟨n, 0, some 0⟩))), (6, (.bool false)), (7, (.pointer (some ⟨(n + 1), 0, some 0⟩))), (8, (.int .i64 (((andN many 65535) : Nat) : Int))), (9, (W 0#32)), (10, (.int .i64 0)), (11, (.bool false)), (12, (W id)), (13, (.int .i64 (((andN (((andN many 65535) : Nat) : Int) 3) : Nat) : Int))), (14, (.bool true)), (98, (.bool false))] ⟨rfl, rfl, rfl, rfl, rfl, rfl, rfl, rfl, rfl, rfl, rfl, rfl, rfl, rfl, trivial⟩ (fun τr34 => ?_)
          refine RA.cond (t := false) rfl (fun hc => ?_) (fun hc => ?_)
          · cases hc
          ·
            refine RA.skip env_ok ?_
            intro _
            refine RA.weaken (D' := [((n + 1), some ⟨[[(.int .i64 typ), (.string (v.extract 0 (min v.size 12)))]], 2, 35, true⟩)]) hd (Less.of (by simp only [List.forall_mem_cons, List.not_mem_nil, false_imp_iff, implies_true, and_true]; exact ⟨by simp only [keys, List.cons_append, List.nil_append, List.map_cons, List.map_nil, List.mem_cons, true_or, or_true], fun _ => (get_here).trans (get_here).symm⟩) (by intro x hx; simp only [keys, List.cons_append, List.nil_append, List.map_cons, List.map_nil, List.mem_cons, List.not_mem_nil, or_false, false_or] at hx ⊢; omega)) ?_
            refine RA.rebase [(7, (.pointer (some ⟨(n + 1), 0, some 0⟩)))] ⟨rfl, trivial⟩ (fun τr => ?_)
            exact suf hd typ (v.extract 0 (min v.size 12)) (by rw [size_cut _ _ _ (by omega)]; omega) n30 (by omega) τr
        ·
          refine OA.pure (dst := (some 77)) (v := (.bool false)) rfl rfl rfl (Eq.trans (r_bin rfl rfl rfl (b_eql rfl)) (by first | (rw [decide_eq_false hc11]; done) | (rw [decide_eq_false hc11]; rfl))) ?_
          refine OA.pure (dst := (some 78)) (v := (.bool false)) rfl rfl rfl rfl ?_
          refine OA.pure (dst := (some 79)) (v := (.int .i64 (((andN many 65535) : Nat) : Int))) rfl rfl rfl rfl ?_
          have hm35 := andN_le (((andN many 65535) : Nat) : Int) 3 (by decide)
          refine OA.pure (dst := (some 80)) (v := (.int .i64 (((andN (((andN many 65535) : Nat) : Int) 3) : Nat) : Int))) rfl rfl rfl (r_bin rfl rfl rfl (b_andN (((andN many 65535) : Nat) : Int) 3 (by decide))) ?_
          by_cases hc12 : (((andN (((andN many 65535) : Nat) : Int) 3) : Nat) : Int) = 2
          ·
            refine OA.pure (dst := (some 81)) (v := (.bool true)) rfl rfl rfl (Eq.trans (r_bin rfl rfl rfl (b_eql rfl)) (by first | (rw [decide_eq_true hc12]; done) | (rw [decide_eq_true hc12]; rfl))) ?_
            refine OA.pure (dst := (some 82)) (v := (.bool true)) rfl rfl rfl rfl ?_
            refine OA.pure (dst := (some 83)) (v := (.bool false)) rfl rfl rfl rfl ?_
            refine OA.pure (dst := (some 84)) (v := (.bool false)) rfl rfl rfl rfl ?_
            refine OA.pure (dst := (some 85)) (v := (.bool false)) rfl rfl rfl rfl ?_
            refine OA.pure (dst := (some 86)) (v := (.bool true)) rfl rfl rfl rfl ?_
            refine OA.pure (dst := (some 87)) (v := (.bool true)) rfl rfl rfl rfl ?_
            refine OA.pure (dst := (some 88)) (v := (W id)) rfl rfl rfl rfl ?_
            refine OA.pure (dst := (some 89)) (v := (W id)) rfl rfl rfl rfl ?_
            refine OA.pure (dst := (some 90)) (v := (.bool false)) rfl rfl rfl (r_bin rfl rfl rfl (b_neq (decide_eq_false (fun h => h rfl)))) ?_
            refine OA.pure (dst := (some 91)) (v := (.bool false)) rfl rfl rfl rfl ?_
            refine OA.pure (dst := (some 92)) (v := (.int .i64 (((andN (((andN many 65535) : Nat) : Int) 3) : Nat) : Int))) rfl rfl rfl rfl ?_
            refine OA.pure (dst := (some 93)) (v := (.int .i64 (((andN many 65535) : Nat) : Int))) rfl rfl rfl rfl ?_
            have hm36 := andN_le (((andN many 65535) : Nat) : Int) 3 (by decide)
            refine OA.pure (dst := (some 94)) (v := (.int .i64 (((andN (((andN many 65535) : Nat) : Int) 3) : Nat) : Int))) rfl rfl rfl (r_bin rfl rfl rfl (b_andN (((andN many 65535) : Nat) : Int) 3 (by decide))) ?_
            refine OA.pure (dst := (some 95)) (v := (.bool false)) rfl rfl rfl (r_bin rfl rfl rfl (b_neq (decide_eq_false (fun h => h rfl)))) ?_
            refine OA.pure (dst := (some 96)) (v := (.bool false)) rfl rfl rfl rfl ?_
            refine OA.pure (dst := (some 97)) (v := (.bool false)) rfl rfl rfl rfl ?_
            refine OA.pure (dst := (some 98)) (v := (.bool false)) rfl rfl rfl rfl ?_
            refine OA.nil ?_
            intro _
            refine RA.rebase [(0, (.agg ⟨[(.int .i64 typ), (.string v)]⟩)), (1, (W id)), (2, (.int .i64 many)), (3, (.pointer (some ⟨n, 0, some 0⟩))), (6, (.bool false)), (7, (.pointer (some ⟨(n + 1), 0, some 0⟩))), (8, (.int .i64 (((andN many 65535) : Nat) : Int))), (9, (W 0#32)), (10, (.int .i64 0)), (11, (.bool false)), (12, (W id)), (13, (.int .i64 (((andN (((andN many 65535) : Nat) : Int) 3) : Nat) : Int))), (14, (.bool true)), (98, (.bool false))] ⟨rfl, rfl, rfl, rfl, rfl, rfl, rfl, rfl, rfl, rfl, rfl, rfl, rfl, rfl, trivial⟩ (fun τr37 => ?_)
            refine RA.cond (t := false) rfl (fun hc => ?_) (fun hc => ?_)
            · cases hc
            ·
              refine RA.skip env_ok ?_
              intro _
              refine RA.weaken (D' := [((n + 1), some ⟨[[(.int .i64 typ), (.string (v.extract 0 (min v.size 12)))]], 2, 35, true⟩)]) hd (Less.of (by simp only [List.forall_mem_cons, List.not_mem_nil, false_imp_iff, implies_true, and_true]; exact ⟨by simp only [keys, List.cons_append, List.nil_append, List.map_cons, List.map_nil, List.mem_cons, true_or, or_true], fun _ => (get_here).trans (get_here).symm⟩) (by intro x hx; simp only [keys, List.cons_append, List.nil_append, List.map_cons, List.map_nil, List.mem_cons, List.not_mem_nil, or_false, false_or] at hx ⊢; omega)) ?_
              refine RA.rebase [(7, (.pointer (some ⟨(n + 1), 0, some 0⟩)))] ⟨rfl, trivial⟩ (fun τr => ?_)
              exact suf hd typ (v.extract 0 (min v.size 12)) (by rw [size_cut _ _ _ (by omega)]; omega) n30 (by omega) τr
          ·
            refine OA.pure (dst := (some 81)) (v := (.bool false)) rfl rfl rfl (Eq.trans (r_bin rfl rfl rfl (b_eql rfl)) (by first | (rw [decide_eq_false hc12]; done) | (rw [decide_eq_false hc12]; rfl))) ?_
            refine OA.pure (dst := (some 82)) (v := (.bool false)) rfl rfl rfl rfl ?_
            refine OA.pure (dst := (some 83)) (v := (.bool true)) rfl rfl rfl rfl ?_
            refine OA.pure (dst := (some 84)) (v := (.bool true)) rfl rfl rfl rfl ?_
            refine OA.pure (dst := (some 85)) (v := (.bool true)) rfl rfl rfl rfl ?_
            refine OA.off (dst := (some 86)) rfl rfl rfl ?_
            refine OA.off (dst := (some 87)) rfl rfl rfl ?_
            refine OA.off (dst := (some 88)) rfl rfl rfl ?_
            refine OA.off (dst := (some 89)) rfl rfl rfl ?_
            refine OA.off (dst := (some 90)) rfl rfl rfl ?_
            refine OA.off (dst := (some 91)) rfl rfl rfl ?_
            refine OA.off (dst := (some 92)) rfl rfl rfl ?_
            refine OA.off (dst := (some 93)) rfl rfl rfl ?_
            refine OA.off (dst := (some 94)) rfl rfl rfl ?_
            refine OA.off (dst := (some 95)) rfl rfl rfl ?_
            refine OA.off (dst := (some 96)) rfl rfl rfl ?_
            refine OA.off (dst := (some 97)) rfl rfl rfl ?_
            refine OA.pure (dst := (some 98)) (v := (.bool true)) rfl rfl rfl rfl ?_
            refine OA.nil ?_
            intro _
            refine RA.rebase [(0, (.agg ⟨[(.int .i64 typ), (.string v)]⟩)), (1, (W id)), (2, (.int .i64 many)), (3, (.pointer (some ⟨n, 0, some 0⟩))), (6, (.bool false)), (7, (.pointer (some ⟨(n + 1), 0, some 0⟩))), (8, (.int .i64 (((andN many 65535) : Nat) : Int))), (9, (W 0#32)), (10, (.int .i64 0)), (11, (.bool false)), (12, (W id)), (13, (.int .i64 (((andN (((andN many 65535) : Nat) : Int) 3) : Nat) : Int))), (14, (.bool true)), (98, (.bool true))] ⟨rfl, rfl, rfl, rfl, rfl, rfl, rfl, rfl, rfl, rfl, rfl, rfl, rfl, rfl, trivial⟩ (fun τr38 => ?_)
            refine RA.cond (t := true) rfl (fun hc => ?_) (fun hc => ?_)
            ·
              refine RA.seq hd ?_
              refine RA.region env_ok ?_
              refine OA.pure (dst := (some 6)) (v := (.bool false)) rfl rfl rfl rfl ?_
              refine OA.nil ?_
              intro _
              refine RA.ret env_ok ?_
              refine ⟨.inr rfl, [(.bool false)], (resL_cons rfl resL_nil), (by exfalso; omega), (by intro i hi; simp only [keys, List.cons_append, List.nil_append, List.map_cons, List.map_nil, List.mem_cons, List.not_mem_nil, or_false, false_or] at hi; omega)⟩
            · cases hc
    ·
      refine OA.callP (dst := (some 48)) (all := [(.agg ⟨[(.int .i64 16), (.string (resV id (BitVec.ofNat 32 (andN (((andN many 65535) : Nat) : Int) 3))))]⟩)]) (v := (.tuple ⟨[(W 0#32), (.int .i64 0), (.bool false)]⟩)) (hd.of (by omega) (by intro i hi; simp only [keys, List.cons_append, List.nil_append, List.map_cons, List.map_nil, List.mem_cons, List.not_mem_nil, or_false, false_or] at hi; omega)) rfl rfl rfl rfl rfl rfl rfl rfl (sRR0 _ _ (by omega) hc9) ?_
      intro n39 hn39
      refine OA.pure (dst := (some 43)) (v := (.tuple ⟨[(W 0#32), (.int .i64 0), (.bool false)]⟩)) rfl rfl rfl rfl ?_
      refine OA.pure (dst := (some 49)) (v := (W 0#32)) rfl rfl rfl rfl ?_
      refine OA.pure (dst := (some 50)) (v := (.int .i64 0)) rfl rfl rfl rfl ?_
      refine OA.pure (dst := (some 51)) (v := (.bool false)) rfl rfl rfl rfl ?_
      refine OA.pure (dst := (some 12)) (v := (W 0#32)) rfl rfl rfl rfl ?_
      refine OA.pure (dst := (some 13)) (v := (.int .i64 0)) rfl rfl rfl rfl ?_
      refine OA.pure (dst := (some 14)) (v := (.bool false)) rfl rfl rfl rfl ?_
      refine OA.nil ?_
      intro _
      refine RA.seq hd ?_
      refine RA.seq hd ?_
      refine RA.region env_ok ?_
      refine OA.callP (dst := (some 52)) (all := []) (v := (.bool true)) (hd.of (by omega) (by intro i hi; simp only [keys, List.cons_append, List.nil_append, List.map_cons, List.map_nil, List.mem_cons, List.not_mem_nil, or_false, false_or] at hi; omega)) rfl rfl rfl rfl rfl rfl rfl rfl awake ?_
      intro n40 hn40
      refine OA.pure (dst := (some 53)) (v := (.bool false)) rfl rfl rfl rfl ?_
      refine OA.pure (dst := (some 54)) (v := (.bool false)) rfl rfl rfl rfl ?_
      refine OA.pure (dst := (some 55)) (v := (.bool false)) rfl rfl rfl rfl ?_
      refine OA.pure (dst := (some 56)) (v := (.int .i64 (((andN many 65535) : Nat) : Int))) rfl rfl rfl rfl ?_
      by_cases hc13 : 0 < (((andN many 65535) : Nat) : Int)
      ·
        refine OA.pure (dst := (some 57)) (v := (.bool true)) rfl rfl rfl (Eq.trans (r_bin rfl rfl rfl (b_gtr rfl)) (by first | (rw [decide_eq_true hc13]; done) | (rw [decide_eq_true hc13]; rfl))) ?_
        refine OA.pure (dst := (some 58)) (v := (.bool true)) rfl rfl rfl rfl ?_
        refine OA.pure (dst := (some 59)) (v := (.bool true)) rfl rfl rfl rfl ?_
        refine OA.pure (dst := (some 60)) (v := (.bool true)) rfl rfl rfl rfl ?_
        refine OA.off (dst := (some 61)) rfl rfl rfl ?_
        refine OA.off (dst := (some 62)) rfl rfl rfl ?_
        refine OA.off (dst := (some 63)) rfl rfl rfl ?_
        refine OA.off (dst := (some 64)) rfl rfl rfl ?_
        refine OA.off (dst := (some 65)) rfl rfl rfl ?_
        refine OA.off (dst := (some 66)) rfl rfl rfl ?_
        refine OA.off (dst := (some 67)) rfl rfl rfl ?_
        refine OA.off (dst := (some 68)) rfl rfl rfl ?_
        refine OA.off (dst := (some 69)) rfl rfl rfl ?_
        refine OA.off (dst := (some 70)) rfl rfl rfl ?_
        refine OA.off (dst := (some 71)) rfl rfl rfl ?_
        refine OA.pure (dst := (some 72)) (v := (.bool true)) rfl rfl rfl rfl ?_
        refine OA.pure (dst := (some 73)) (v := (.bool true)) rfl rfl rfl rfl ?_
        refine OA.off (dst := (some 74)) rfl rfl rfl ?_
        refine OA.off (dst := (some 75)) rfl rfl rfl ?_
        refine OA.off (dst := (some 76)) rfl rfl rfl ?_
        refine OA.off (dst := (some 77)) rfl rfl rfl ?_
        refine OA.off (dst := (some 78)) rfl rfl rfl ?_
        refine OA.off (dst := (some 79)) rfl rfl rfl ?_
        refine OA.off (dst := (some 80)) rfl rfl rfl ?_
        refine OA.off (dst := (some 81)) rfl rfl rfl ?_
        refine OA.off (dst := (some 82)) rfl rfl rfl ?_
        refine OA.off (dst := (some 83)) rfl rfl rfl ?_
        refine OA.pure (dst := (some 84)) (v := (.bool true)) rfl rfl rfl rfl ?_
        refine OA.pure (dst := (some 85)) (v := (.bool true)) rfl rfl rfl rfl ?_
        refine OA.off (dst := (some 86)) rfl rfl rfl ?_
        refine OA.off (dst := (some 87)) rfl rfl rfl ?_
        refine OA.off (dst := (some 88)) rfl rfl rfl ?_
        refine OA.off (dst := (some 89)) rfl rfl rfl ?_
        refine OA.off (dst := (some 90)) rfl rfl rfl ?_
        refine OA.off (dst := (some 91)) rfl rfl rfl ?_
        refine OA.off (dst := (some 92)) rfl rfl rfl ?_
        refine OA.off (dst := (some 93)) rfl rfl rfl ?_
        refine OA.off (dst := (some 94)) rfl rfl rfl ?_
        refine OA.off (dst := (some 95)) rfl rfl rfl ?_
        refine OA.off (dst := (some 96)) rfl rfl rfl ?_
        refine OA.off (dst := (some 97)) rfl rfl rfl ?_
        refine OA.pure (dst := (some 98)) (v := (.bool true)) rfl rfl rfl rfl ?_
        refine OA.nil ?_
        intro _
        refine RA.rebase [(0, (.agg ⟨[(.int .i64 typ), (.string v)]⟩)), (1, (W id)), (2, (.int .i64 many)), (3, (.pointer (some ⟨n, 0, some 0⟩))), (6, (.bool false)), (7, (.pointer (some ⟨(n + 1), 0, some 0⟩))), (8, (.int .i64 (((andN many 65535) : Nat) : Int))), (9, (W 0#32)), (10, (.int .i64 0)), (11, (.bool false)), (12, (W 0#32)), (13, (.int .i64 0)), (14, (.bool false)), (98, (.bool true))] ⟨rfl, rfl, rfl, rfl, rfl, rfl, rfl, rfl, rfl, rfl, rfl, rfl, rfl, rfl, trivial⟩ (fun τr41 => ?_)
        refine RA.cond (t := true) rfl (fun hc => ?_) (fun hc => ?_)
        ·
          refine RA.seq hd ?_
          refine RA.region env_ok ?_
          refine OA.pure (dst := (some 6)) (v := (.bool false)) rfl rfl rfl rfl ?_
          refine OA.nil ?_
          intro _
          refine RA.ret env_ok ?_
          refine ⟨.inr rfl, [(.bool false)], (resL_cons rfl resL_nil), (by exfalso; omega), (by intro i hi; simp only [keys, List.cons_append, List.nil_append, List.map_cons, List.map_nil, List.mem_cons, List.not_mem_nil, or_false, false_or] at hi; omega)⟩
        · cases hc
      ·
        refine OA.pure (dst := (some 57)) (v := (.bool false)) rfl rfl rfl (Eq.trans (r_bin rfl rfl rfl (b_gtr rfl)) (by first | (rw [decide_eq_false hc13]; done) | (rw [decide_eq_false hc13]; rfl))) ?_
        refine OA.pure (dst := (some 58)) (v := (.bool false)) rfl rfl rfl rfl ?_
        refine OA.pure (dst := (some 59)) (v := (.bool false)) rfl rfl rfl rfl ?_
        refine OA.pure (dst := (some 60)) (v := (.bool false)) rfl rfl rfl rfl ?_
        refine OA.pure (dst := (some 61)) (v := (.bool false)) rfl rfl rfl rfl ?_
        refine OA.pure (dst := (some 62)) (v := (.bool false)) rfl rfl rfl rfl ?_
        refine OA.off (dst := (some 63)) rfl rfl rfl ?_
        refine OA.off (dst := (some 64)) rfl rfl rfl ?_
        refine OA.off (dst := (some 65)) rfl rfl rfl ?_
        refine OA.off (dst := (some 66)) rfl rfl rfl ?_
        refine OA.off (dst := (some 67)) rfl rfl rfl ?_
        refine OA.off (dst := (some 68)) rfl rfl rfl ?_
        refine OA.off (dst := (some 69)) rfl rfl rfl ?_
        refine OA.off (dst := (some 70)) rfl rfl rfl ?_
        refine OA.pure (dst := (some 71)) (v := (.bool false)) rfl rfl rfl rfl ?_
        refine OA.pure (dst := (some 72)) (v := (.bool false)) rfl rfl rfl rfl ?_
        refine OA.pure (dst := (some 73)) (v := (.bool false)) rfl rfl rfl rfl ?_
        refine OA.pure (dst := (some 74)) (v := (.bool false)) rfl rfl rfl rfl ?_
        refine OA.pure (dst := (some 75)) (v := (.int .i64 (((andN many 65535) : Nat) : Int))) rfl rfl rfl rfl ?_
        have hm42 := andN_le (((andN many 65535) : Nat) : Int) 3 (by decide)
        refine OA.pure (dst := (some 76)) (v := (.int .i64 (((andN (((andN many 65535) : Nat) : Int) 3) : Nat) : Int))) rfl rfl rfl (r_bin rfl rfl rfl (b_andN (((andN many 65535) : Nat) : Int) 3 (by decide))) ?_
        by_cases hc14 : (((andN (((andN many 65535) : Nat) : Int) 3) : Nat) : Int) = 1
        ·
          refine OA.pure (dst := (some 77)) (v := (.bool true)) rfl rfl rfl (Eq.trans (r_bin rfl rfl rfl (b_eql rfl)) (by first | (rw [decide_eq_true hc14]; done) | (rw [decide_eq_true hc14]; rfl))) ?_
          refine OA.pure (dst := (some 78)) (v := (.bool true)) rfl rfl rfl rfl ?_
          refine OA.off (dst := (some 79)) rfl rfl rfl ?_
          refine OA.off (dst := (some 80)) rfl rfl rfl ?_
          refine OA.off (dst := (some 81)) rfl rfl rfl ?_
          refine OA.pure (dst := (some 82)) (v := (.bool true)) rfl rfl rfl rfl ?_
          refine OA.pure (dst := (some 83)) (v := (.bool true)) rfl rfl rfl rfl ?_
          refine OA.pure (dst := (some 84)) (v := (.bool true)) rfl rfl rfl rfl ?_
          refine OA.pure (dst := (some 85)) (v := (.bool true)) rfl rfl rfl rfl ?_
          refine OA.off (dst := (some 86)) rfl rfl rfl ?_
          refine OA.off (dst := (some 87)) rfl rfl rfl ?_
          refine OA.off (dst := (some 88)) rfl rfl rfl ?_
          refine OA.off (dst := (some 89)) rfl rfl rfl ?_
          refine OA.off (dst := (some 90)) rfl rfl rfl ?_
          refine OA.off (dst := (some 91)) rfl rfl rfl ?_
          refine OA.off (dst := (some 92)) rfl rfl rfl ?_
          refine OA.off (dst := (some 93)) rfl rfl rfl ?_
          refine OA.off (dst := (some 94)) rfl rfl rfl ?_
          refine OA.off (dst := (some 95)) rfl rfl rfl ?_
          refine OA.off (dst := (some 96)) rfl rfl rfl ?_
          refine OA.off (dst := (some 97)) rfl rfl rfl ?_
          refine OA.pure (dst := (some 98)) (v := (.bool true)) rfl rfl rfl rfl ?_
          refine OA.nil ?_
          intro _
          refine RA.rebase [(0, (.agg ⟨[(.int .i64 typ), (.string v)]⟩)), (1, (W id)), (2, (.int .i64 many)), (3, (.pointer (some ⟨n, 0, some 0⟩))), (6, (.bool false)), (7, (.pointer (some ⟨(n + 1), 0, some 0⟩))), (8, (.int .i64 (((andN many 65535) : Nat) : Int))), (9, (W 0#32)), (10, (.int .i64 0)), (11, (.bool false)), (12, (W 0#32)), (13, (.int .i64 0)), (14, (.bool false)), (98, (.bool true))] ⟨rfl, rfl, rfl, rfl, rfl, rfl, rfl, rfl, rfl, rfl, rfl, rfl, rfl, rfl, trivial⟩ (fun τr43 => ?_)
          refine RA.cond (t := true) rfl (fun hc => ?_) (fun hc => ?_)
          ·
            refine RA.seq hd ?_
            refine RA.region env_ok ?_
            refine OA.pure (dst := (some 6)) (v := (.bool false)) rfl rfl rfl rfl ?_
            refine OA.nil ?_
            intro _
            refine RA.ret env_ok ?_
            refine ⟨.inr rfl, [(.bool false)], (resL_cons rfl resL_nil), (by exfalso; omega), (by intro i hi; simp only [keys, List.cons_append, List.nil_append, List.map_cons, List.map_nil, List.mem_cons, List.not_mem_nil, or_false, false_or] at hi; omega)⟩
          · cases hc
        ·
          refine OA.pure (dst := (some 77)) (v := (.bool false)) rfl rfl rfl (Eq.trans (r_bin rfl rfl rfl (b_eql rfl)) (by first | (rw [decide_eq_false hc14]; done) | (rw [decide_eq_false hc14]; rfl))) ?_
          refine OA.pure (dst := (some 78)) (v := (.bool false)) rfl rfl rfl rfl ?_
          refine OA.pure (dst := (some 79)) (v := (.int .i64 (((andN many 65535) : Nat) : Int))) rfl rfl rfl rfl ?_
          have hm44 := andN_le (((andN many 65535) : Nat) : Int) 3 (by decide)
          refine OA.pure (dst := (some 80)) (v := (.int .i64 (((andN (((andN many 65535) : Nat) : Int) 3) : Nat) : Int))) rfl rfl rfl (r_bin rfl rfl rfl (b_andN (((andN many 65535) : Nat) : Int) 3 (by decide))) ?_
          by_cases hc15 : (((andN (((andN many 65535) : Nat) : Int) 3) : Nat) : Int) = 2
          ·
            refine OA.pure (dst := (some 81)) (v := (.bool true)) rfl rfl rfl (Eq.trans (r_bin rfl rfl rfl (b_eql rfl)) (by first | (rw [decide_eq_true hc15]; done) | (rw [decide_eq_true hc15]; rfl))) ?_
            refine OA.pure (dst := (some 82)) (v := (.bool true)) rfl rfl rfl rfl ?_
            refine OA.pure (dst := (some 83)) (v := (.bool true)) rfl rfl rfl rfl ?_
            refine OA.pure (dst := (some 84)) (v := (.bool true)) rfl rfl rfl rfl ?_
            refine OA.pure (dst := (some 85)) (v := (.bool true)) rfl rfl rfl rfl ?_
            refine OA.off (dst := (some 86)) rfl rfl rfl ?_
            refine OA.off (dst := (some 87)) rfl rfl rfl ?_
            refine OA.off (dst := (some 88)) rfl rfl rfl ?_
            refine OA.off (dst := (some 89)) rfl rfl rfl ?_
            refine OA.off (dst := (some 90)) rfl rfl rfl ?_
            refine OA.off (dst := (some 91)) rfl rfl rfl ?_
            refine OA.off (dst := (some 92)) rfl rfl rfl ?_
            refine OA.off (dst := (some 93)) rfl rfl rfl ?_
            refine OA.off (dst := (some 94)) rfl rfl rfl ?_
            refine OA.off (dst := (some 95)) rfl rfl rfl ?_
            refine OA.off (dst := (some 96)) rfl rfl rfl ?_
            refine OA.off (dst := (some 97)) rfl rfl rfl ?_
            refine OA.pure (dst := (some 98)) (v := (.bool true)) rfl rfl rfl rfl ?_
            refine OA.nil ?_
            intro _
            refine RA.rebase [(0, (.agg ⟨[(.int .i64 typ), (.string v)]⟩)), (1, (W id)), (2, (.int .i64 many)), (3, (.pointer (some ⟨n, 0, some 0⟩))), (6, (.bool false)), (7, (.pointer (some ⟨(n + 1), 0, some 0⟩))), (8, (.int .i64 (((andN many 65535) : Nat) : Int))), (9, (W 0#32)), (10, (.int .i64 0)), (11, (.bool false)), (12, (W 0#32)), (13, (.int .i64 0)), (14, (.bool false)), (98, (.bool true))] ⟨rfl, rfl, rfl, rfl, rfl, rfl, rfl, rfl, rfl, rfl, rfl, rfl, rfl, rfl, trivial⟩ (fun τr45 => ?_)
            refine RA.cond (t := true) rfl (fun hc => ?_) (fun hc => ?_)
            ·
              refine RA.seq hd ?_
              refine RA.region env_ok ?_
              refine OA.pure (dst := (some 6)) (v := (.bool false)) rfl rfl rfl rfl ?_
              refine OA.nil ?_
              intro _
              refine RA.ret env_ok ?_
              refine ⟨.inr rfl, [(.bool false)], (resL_cons rfl resL_nil), (by exfalso; omega), (by intro i hi; simp only [keys, List.cons_append, List.nil_append, List.map_cons, List.map_nil, List.mem_cons, List.not_mem_nil, or_false, false_or] at hi; omega)⟩
            · cases hc
          ·
            refine OA.pure (dst := (some 81)) (v := (.bool false)) rfl rfl rfl (Eq.trans (r_bin rfl rfl rfl (b_eql rfl)) (by first | (rw [decide_eq_false hc15]; done) | (rw [decide_eq_false hc15]; rfl))) ?_
            refine OA.pure (dst := (some 82)) (v := (.bool false)) rfl rfl rfl rfl ?_
            refine OA.pure (dst := (some 83)) (v := (.bool false)) rfl rfl rfl rfl ?_
            refine OA.pure (dst := (some 84)) (v := (.bool false)) rfl rfl rfl rfl ?_
            refine OA.pure (dst := (some 85)) (v := (.bool false)) rfl rfl rfl rfl ?_
            refine OA.pure (dst := (some 86)) (v := (.bool false)) rfl rfl rfl rfl ?_
            refine OA.pure (dst := (some 87)) (v := (.bool false)) rfl rfl rfl rfl ?_
            refine OA.off (dst := (some 88)) rfl rfl rfl ?_
            refine OA.off (dst := (some 89)) rfl rfl rfl ?_
            refine OA.off (dst := (some 90)) rfl rfl rfl ?_
            refine OA.off (dst := (some 91)) rfl rfl rfl ?_
            refine OA.off (dst := (some 92)) rfl rfl rfl ?_
            refine OA.off (dst := (some 93)) rfl rfl rfl ?_
            refine OA.off (dst := (some 94)) rfl rfl rfl ?_
            refine OA.off (dst := (some 95)) rfl rfl rfl ?_
            refine OA.off (dst := (some 96)) rfl rfl rfl ?_
            refine OA.pure (dst := (some 97)) (v := (.bool false)) rfl rfl rfl rfl ?_
            refine OA.pure (dst := (some 98)) (v := (.bool false)) rfl rfl rfl rfl ?_
            refine OA.nil ?_
            intro _
            refine RA.rebase [(0, (.agg ⟨[(.int .i64 typ), (.string v)]⟩)), (1, (W id)), (2, (.int .i64 many)), (3, (.pointer (some ⟨n, 0, some 0⟩))), (6, (.bool false)), (7, (.pointer (some ⟨(n + 1), 0, some 0⟩))), (8, (.int .i64 (((andN many 65535) : Nat) : Int))), (9, (W 0#32)), (10, (.int .i64 0)), (11, (.bool false)), (12, (W 0#32)), (13, (.int .i64 0)), (14, (.bool false)), (98, (.bool false))] ⟨rfl, rfl, rfl, rfl, rfl, rfl, rfl, rfl, rfl, rfl, rfl, rfl, rfl, rfl, trivial⟩ (fun τr46 => ?_)
            refine RA.cond (t := false) rfl (fun hc => ?_) (fun hc => ?_)
            · cases hc
            ·
              refine RA.skip env_ok ?_
              intro _
              refine RA.weaken (D' := [((n + 1), some ⟨[[(.int .i64 typ), (.string (v.extract 0 (min v.size 12)))]], 2, 35, true⟩)]) hd (Less.of (by simp only [List.forall_mem_cons, List.not_mem_nil, false_imp_iff, implies_true, and_true]; exact ⟨by simp only [keys, List.cons_append, List.nil_append, List.map_cons, List.map_nil, List.mem_cons, true_or, or_true], fun _ => (get_here).trans (get_here).symm⟩) (by intro x hx; simp only [keys, List.cons_append, List.nil_append, List.map_cons, List.map_nil, List.mem_cons, List.not_mem_nil, or_false, false_or] at hx ⊢; omega)) ?_
              refine RA.rebase [(7, (.pointer (some ⟨(n + 1), 0, some 0⟩)))] ⟨rfl, trivial⟩ (fun τr => ?_)
              exact suf hd typ (v.extract 0 (min v.size 12)) (by rw [size_cut _ _ _ (by omega)]; omega) n40 (by omega) τr
end Go.Proofs.Ytgajcmanompmcaa.Vt
