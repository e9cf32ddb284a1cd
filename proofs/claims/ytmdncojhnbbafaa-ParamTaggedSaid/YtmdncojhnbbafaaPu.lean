/- Pu: walks through functions of the program, by the calculus; written by a program of this workplace. -/
import Derived.Test.YtmdncojhnbbafaaPt
namespace Go.Proofs.Ytmdncojhnbbafaa.Vt
open Go Go.Proofs Go.Proofs.YtmdncojhnbbafaaV
set_option maxRecDepth 100000
set_option linter.unusedVariables false
set_option linter.unusedSimpArgs false
theorem sLaw {σ : Store} (typ : Int) (v : ByteArray) (id a b : BitVec 32)   : PS Try.prog noDen 8 [(.agg ⟨[(.int .i64 typ), (.string v)]⟩), (W id), (.agg ⟨[(W a), (W b)]⟩)] σ (.bool true) := by
  refine PS.body (E := env) env_ok rfl rfl (by show _ ≤ _; exact of_decide_eq_true (by kernel_rfl)) (fun n hd => ?_)
  have hu : (v.extract 0 (min v.size 30)).size = min v.size 30 := by rw [size_cut _ _ _ (by omega)]; rfl
  have hz4 : (v.extract 0 (min v.size 30)).size = 12 → ((v.extract 0 (min v.size 30)).extract 4 8 = ⟨#[0, 0, 0, 0]⟩ ↔ (w32 (v.extract 0 (min v.size 30)) 4).toNat = 0) := fun h => zero_at rfl (by omega)
  have hz8 : (v.extract 0 (min v.size 30)).size = 12 → ((v.extract 0 (min v.size 30)).extract 8 (v.extract 0 (min v.size 30)).size = ⟨#[0, 0, 0, 0]⟩ ↔ (w32 (v.extract 0 (min v.size 30)) 8).toNat = 0) := fun h => zero_at (by omega) (by omega)
  refine RA.seq hd ?_
  refine RA.region env_ok ?_
  refine OA.op (dst := (some 3)) (v := (.pointer (some ⟨n, 0, some 0⟩))) (n1 := (n + 1)) (d1 := [(n, some ⟨[[(.int .i64 typ), (.string v)]], 2, 65, true⟩)]) (D' := [(n, some ⟨[[(.int .i64 typ), (.string v)]], 2, 65, true⟩)]) rfl rfl rfl rfl (by omega) rfl ?_
  refine OA.op (dst := (some 5)) (v := (.pointer (some ⟨(n + 1), 0, some 0⟩))) (n1 := (n + 2)) (d1 := [((n + 1), some ⟨[[(W a), (W b)]], 2, 69, true⟩)]) (D' := [((n + 1), some ⟨[[(W a), (W b)]], 2, 69, true⟩), (n, some ⟨[[(.int .i64 typ), (.string v)]], 2, 65, true⟩)]) rfl rfl rfl rfl (by omega) rfl ?_
  refine OA.pure (dst := (some 6)) (v := (.bool false)) rfl rfl rfl rfl ?_
  refine OA.nil ?_
  intro _
  refine RA.seq hd ?_
  refine RA.par (md := [some [], some [n], some [], some [n], some [], some [n], some [], some [], some [], some [], some [], none]) env_ok (hd.of (by omega) (by intro i hi; simp only [keys, List.cons_append, List.nil_append, List.map_cons, List.map_nil, List.mem_cons, List.not_mem_nil, or_false, false_or] at hi; omega)) (by kernel_rfl) ?_
  refine PQ.pure (dst := (some 17)) (v := (.pointer (some ⟨n, 0, some 0⟩))) rfl rfl rfl noStore (none_ok _ _) rfl ?_
  refine PQ.pure (dst := (some 18)) (v := (.int .i64 typ)) rfl rfl rfl (app [(n, some ⟨[[(.int .i64 typ), (.string v)]], 2, 65, true⟩)] noStore) (seen_one (V := []) (D := [((n + 1), some ⟨[[(W a), (W b)]], 2, 69, true⟩), (n, some ⟨[[(.int .i64 typ), (.string v)]], 2, 65, true⟩)]) (by kernel_rfl) (get_there (by omega) get_here)) (r_load1 rfl rfl rfl rfl rfl get_here rfl rfl) ?_
  refine PQ.pure (dst := (some 19)) (v := (.pointer (some ⟨n, 0, some 1⟩))) rfl rfl rfl noStore (none_ok _ _) rfl ?_
  refine PQ.pure (dst := (some 20)) (v := (.string v)) rfl rfl rfl (app [(n, some ⟨[[(.int .i64 typ), (.string v)]], 2, 65, true⟩)] noStore) (seen_one (V := []) (D := [((n + 1), some ⟨[[(W a), (W b)]], 2, 69, true⟩), (n, some ⟨[[(.int .i64 typ), (.string v)]], 2, 65, true⟩)]) (by kernel_rfl) (get_there (by omega) get_here)) (r_load1 rfl rfl rfl rfl rfl get_here rfl rfl) ?_
  refine PQ.pure (dst := (some 21)) (v := (.pointer (some ⟨n, 0, some 1⟩))) rfl rfl rfl noStore (none_ok _ _) rfl ?_
  refine PQ.pure (dst := (some 22)) (v := (.string v)) rfl rfl rfl (app [(n, some ⟨[[(.int .i64 typ), (.string v)]], 2, 65, true⟩)] noStore) (seen_one (V := []) (D := [((n + 1), some ⟨[[(W a), (W b)]], 2, 69, true⟩), (n, some ⟨[[(.int .i64 typ), (.string v)]], 2, 65, true⟩)]) (by kernel_rfl) (get_there (by omega) get_here)) (r_load1 rfl rfl rfl rfl rfl get_here rfl rfl) ?_
  refine PQ.pure (dst := (some 23)) (v := (.int .i64 ((v.size : Nat) : Int))) rfl rfl rfl noStore (none_ok _ _) rfl ?_
  refine PQ.pure (dst := (some 24)) (v := (.int .i64 (((min v.size 30) : Nat) : Int))) rfl rfl rfl noStore (none_ok _ _) (r_min (a := v.size) (b := 30) rfl rfl rfl) ?_
  refine PQ.pure (dst := (some 25)) (v := (.string (v.extract 0 (min v.size 30)))) rfl rfl rfl noStore (none_ok _ _) (r_cut (a := 0) (b := (min v.size 30)) rfl rfl (fun _ => rfl) (fun _ => rfl) rfl rfl rfl bound_nat (by omega) (by omega) rfl) ?_
  refine PQ.pure (dst := (some 26)) (v := (.agg ⟨[(.int .i64 typ), (.string (v.extract 0 (min v.size 30)))]⟩)) rfl rfl rfl noStore (none_ok _ _) (by kernel_rfl) ?_
  refine PQ.op (dst := (some 7)) (v := (.pointer (some ⟨(n + 2), 0, some 0⟩))) (n1 := (n + 3)) (d1 := [((n + 2), some ⟨[[(.int .i64 0), (.string ByteArray.empty)]], 2, 65, true⟩)]) rfl rfl rfl noStore (none_ok _ _) rfl (by omega) (fun x hx => by first | (simp only [keys, List.cons_append, List.nil_append, List.map_cons, List.map_nil, List.mem_cons, List.not_mem_nil, or_false, false_or] at hx; exact wr_new (by omega) (by omega)) | (simp only [keys, List.cons_append, List.nil_append, List.map_cons, List.map_nil, List.mem_cons, List.not_mem_nil, or_false, false_or] at hx; exact wr_old [0, 1, 2, 3, 4, 5, 6, 7, 8, 9] (by kernel_rfl) (by omega) (by omega) (by intro i hi; simp only [List.mem_cons, List.not_mem_nil, or_false] at hi; rcases hi with rfl | rfl | rfl | rfl | rfl | rfl | rfl | rfl | rfl | rfl <;> exact ⟨_, rfl, by simp only [List.mem_cons, List.not_mem_nil, or_false, not_false_eq_true]; try omega⟩))) ?_
  refine PQ.op (dst := none) (v := (.tuple #[])) (n1 := (n + 3)) (d1 := [((n + 2), some ⟨[[(.int .i64 typ), (.string (v.extract 0 (min v.size 30)))]], 2, 65, true⟩)]) rfl rfl rfl (app [((n + 2), some ⟨[[(.int .i64 0), (.string ByteArray.empty)]], 2, 65, true⟩), ((n + 1), some ⟨[[(W a), (W b)]], 2, 69, true⟩), (n, some ⟨[[(.int .i64 typ), (.string v)]], 2, 65, true⟩)] σ) (seen_any (V := [((n + 2), some ⟨[[(.int .i64 0), (.string ByteArray.empty)]], 2, 65, true⟩)]) (D := [((n + 1), some ⟨[[(W a), (W b)]], 2, 69, true⟩), (n, some ⟨[[(.int .i64 typ), (.string v)]], 2, 65, true⟩)]) (by kernel_rfl)) (r_store rfl rfl rfl rfl rfl rfl rfl get_here rfl rfl (Nat.le_of_ble_eq_true rfl) rfl) (by omega) (fun x hx => by first | (simp only [keys, List.cons_append, List.nil_append, List.map_cons, List.map_nil, List.mem_cons, List.not_mem_nil, or_false, false_or] at hx; exact wr_new (by omega) (by omega)) | (exact wr_tight (by kernel_rfl) (by simp only [keys, List.cons_append, List.nil_append, List.map_cons, List.map_nil, List.mem_cons, List.not_mem_nil, or_false, false_or] at hx; omega))) ?_
  refine PQ.done (d := [((n + 2), some ⟨[[(.int .i64 typ), (.string (v.extract 0 (min v.size 30)))]], 2, 65, true⟩), ((n + 2), some ⟨[[(.int .i64 0), (.string ByteArray.empty)]], 2, 65, true⟩)]) (by kernel_rfl) ?_
  intro _
  refine RA.seq hd ?_
  refine RA.region env_ok ?_
  refine OA.pure (dst := (some 28)) (v := (W id)) rfl rfl rfl rfl ?_
  refine OA.pure (dst := (some 29)) (v := (.pointer (some ⟨(n + 1), 0, some 0⟩))) rfl rfl rfl (r_iaA (l := 0) rfl rfl rfl rfl rfl rfl (by omega) (by omega) (by show 0 + 0 * 1 = 0; omega)) ?_
  refine OA.pure (dst := (some 30)) (v := (W a)) rfl rfl rfl (r_load1 rfl rfl rfl rfl rfl (get_there (by omega) (get_there (by omega) get_here)) rfl rfl) ?_
  refine OA.pure (dst := (some 31)) (v := (.pointer (some ⟨(n + 1), 0, some 1⟩))) rfl rfl rfl (r_iaA (l := 1) rfl rfl rfl rfl rfl rfl (by omega) (by omega) (by show 0 + 1 * 1 = 1; omega)) ?_
  refine OA.pure (dst := (some 32)) (v := (W b)) rfl rfl rfl (r_load1 rfl rfl rfl rfl rfl (get_there (by omega) (get_there (by omega) get_here)) rfl rfl) ?_
  refine OA.callP (dst := (some 33)) (all := [(W id), (W a), (W b)]) (v := (.agg ⟨[(.int .i64 49160), (.string (tagsV id a b))]⟩)) (hd.of (by omega) (by intro i hi; simp only [keys, List.cons_append, List.nil_append, List.map_cons, List.map_nil, List.mem_cons, List.not_mem_nil, or_false, false_or] at hi; omega)) rfl rfl rfl rfl rfl rfl rfl rfl (sTags _ _ _) ?_
  intro n1 hn1
  by_cases hc1 : (a.toNat ≠ 0 ∧ b.toNat ≠ 0)
  ·
    refine OA.callP (dst := (some 34)) (all := [(.agg ⟨[(.int .i64 49160), (.string (tagsV id a b))]⟩)]) (v := (.tuple ⟨[(W id), (W a), (W b), (.bool true)]⟩)) (hd.of (by omega) (by intro i hi; simp only [keys, List.cons_append, List.nil_append, List.map_cons, List.map_nil, List.mem_cons, List.not_mem_nil, or_false, false_or] at hi; omega)) rfl rfl rfl rfl rfl rfl rfl rfl (sTT1 _ _ _ hc1) ?_
    intro n2 hn2
    refine OA.pure (dst := (some 27)) (v := (.tuple ⟨[(W id), (W a), (W b), (.bool true)]⟩)) rfl rfl rfl rfl ?_
    refine OA.pure (dst := (some 35)) (v := (W id)) rfl rfl rfl rfl ?_
    refine OA.pure (dst := (some 36)) (v := (W a)) rfl rfl rfl rfl ?_
    refine OA.pure (dst := (some 37)) (v := (W b)) rfl rfl rfl rfl ?_
    refine OA.pure (dst := (some 38)) (v := (.bool true)) rfl rfl rfl rfl ?_
    refine OA.pure (dst := (some 8)) (v := (W id)) rfl rfl rfl rfl ?_
    refine OA.pure (dst := (some 9)) (v := (W a)) rfl rfl rfl rfl ?_
    refine OA.pure (dst := (some 10)) (v := (W b)) rfl rfl rfl rfl ?_
    refine OA.pure (dst := (some 11)) (v := (.bool true)) rfl rfl rfl rfl ?_
    refine OA.nil ?_
    intro _
    refine RA.rebase [(0, (.agg ⟨[(.int .i64 typ), (.string v)]⟩)), (1, (W id)), (2, (.agg ⟨[(W a), (W b)]⟩)), (3, (.pointer (some ⟨n, 0, some 0⟩))), (5, (.pointer (some ⟨(n + 1), 0, some 0⟩))), (6, (.bool false)), (7, (.pointer (some ⟨(n + 2), 0, some 0⟩))), (8, (W id)), (9, (W a)), (10, (W b)), (11, (.bool true))] ⟨rfl, rfl, rfl, rfl, rfl, rfl, rfl, rfl, rfl, rfl, rfl, trivial⟩ (fun τr3 => ?_)
    refine RA.seq hd ?_
    refine RA.seq hd ?_
    refine RA.region env_ok ?_
    refine OA.callP (dst := (some 39)) (all := []) (v := (.bool true)) (hd.of (by omega) (by intro i hi; simp only [keys, List.cons_append, List.nil_append, List.map_cons, List.map_nil, List.mem_cons, List.not_mem_nil, or_false, false_or] at hi; omega)) rfl rfl rfl rfl rfl rfl rfl rfl awake ?_
    intro n4 hn4
    refine OA.pure (dst := (some 40)) (v := (.bool false)) rfl rfl rfl rfl ?_
    refine OA.pure (dst := (some 41)) (v := (.bool false)) rfl rfl rfl rfl ?_
    refine OA.pure (dst := (some 42)) (v := (.bool true)) rfl rfl rfl rfl ?_
    refine OA.pure (dst := (some 43)) (v := (.pointer (some ⟨(n + 1), 0, some 0⟩))) rfl rfl rfl (r_iaA (l := 0) rfl rfl rfl rfl rfl rfl (by omega) (by omega) (by show 0 + 0 * 1 = 0; omega)) ?_
    refine OA.pure (dst := (some 44)) (v := (W a)) rfl rfl rfl (r_load1 rfl rfl rfl rfl rfl (get_there (by omega) (get_there (by omega) get_here)) rfl rfl) ?_
    by_cases hc2 : (a.toNat : Int) ≠ 0
    ·
      refine OA.pure (dst := (some 45)) (v := (.bool true)) rfl rfl rfl (Eq.trans (r_bin rfl rfl rfl (b_neq rfl)) (by first | (rw [decide_eq_true hc2]; done) | (rw [decide_eq_true hc2]; rfl))) ?_
      refine OA.pure (dst := (some 46)) (v := (.bool true)) rfl rfl rfl rfl ?_
      refine OA.pure (dst := (some 47)) (v := (.pointer (some ⟨(n + 1), 0, some 1⟩))) rfl rfl rfl (r_iaA (l := 1) rfl rfl rfl rfl rfl rfl (by omega) (by omega) (by show 0 + 1 * 1 = 1; omega)) ?_
      refine OA.pure (dst := (some 48)) (v := (W b)) rfl rfl rfl (r_load1 rfl rfl rfl rfl rfl (get_there (by omega) (get_there (by omega) get_here)) rfl rfl) ?_
      by_cases hc3 : (b.toNat : Int) ≠ 0
      ·
        refine OA.pure (dst := (some 49)) (v := (.bool true)) rfl rfl rfl (Eq.trans (r_bin rfl rfl rfl (b_neq rfl)) (by first | (rw [decide_eq_true hc3]; done) | (rw [decide_eq_true hc3]; rfl))) ?_
        refine OA.pure (dst := (some 50)) (v := (.bool true)) rfl rfl rfl rfl ?_
        refine OA.pure (dst := (some 51)) (v := (.bool false)) rfl rfl rfl rfl ?_
        refine OA.pure (dst := (some 52)) (v := (.bool false)) rfl rfl rfl rfl ?_
        refine OA.pure (dst := (some 53)) (v := (.bool false)) rfl rfl rfl rfl ?_
        refine OA.pure (dst := (some 54)) (v := (.bool true)) rfl rfl rfl rfl ?_
        refine OA.pure (dst := (some 55)) (v := (.bool true)) rfl rfl rfl rfl ?_
        refine OA.pure (dst := (some 56)) (v := (W id)) rfl rfl rfl rfl ?_
        refine OA.pure (dst := (some 57)) (v := (W id)) rfl rfl rfl rfl ?_
        refine OA.pure (dst := (some 58)) (v := (.bool false)) rfl rfl rfl (r_bin rfl rfl rfl (b_neq (decide_eq_false (fun h => h rfl)))) ?_
        refine OA.pure (dst := (some 59)) (v := (.bool false)) rfl rfl rfl rfl ?_
        refine OA.pure (dst := (some 60)) (v := (W a)) rfl rfl rfl rfl ?_
        refine OA.pure (dst := (some 61)) (v := (.pointer (some ⟨(n + 1), 0, some 0⟩))) rfl rfl rfl (r_iaA (l := 0) rfl rfl rfl rfl rfl rfl (by omega) (by omega) (by show 0 + 0 * 1 = 0; omega)) ?_
        refine OA.pure (dst := (some 62)) (v := (W a)) rfl rfl rfl (r_load1 rfl rfl rfl rfl rfl (get_there (by omega) (get_there (by omega) get_here)) rfl rfl) ?_
        refine OA.pure (dst := (some 63)) (v := (.bool false)) rfl rfl rfl (r_bin rfl rfl rfl (b_neq (decide_eq_false (fun h => h rfl)))) ?_
        refine OA.pure (dst := (some 64)) (v := (.bool false)) rfl rfl rfl rfl ?_
        refine OA.pure (dst := (some 65)) (v := (.bool false)) rfl rfl rfl rfl ?_
        refine OA.pure (dst := (some 66)) (v := (W b)) rfl rfl rfl rfl ?_
        refine OA.pure (dst := (some 67)) (v := (.pointer (some ⟨(n + 1), 0, some 1⟩))) rfl rfl rfl (r_iaA (l := 1) rfl rfl rfl rfl rfl rfl (by omega) (by omega) (by show 0 + 1 * 1 = 1; omega)) ?_
        refine OA.pure (dst := (some 68)) (v := (W b)) rfl rfl rfl (r_load1 rfl rfl rfl rfl rfl (get_there (by omega) (get_there (by omega) get_here)) rfl rfl) ?_
        refine OA.pure (dst := (some 69)) (v := (.bool false)) rfl rfl rfl (r_bin rfl rfl rfl (b_neq (decide_eq_false (fun h => h rfl)))) ?_
        refine OA.pure (dst := (some 70)) (v := (.bool false)) rfl rfl rfl rfl ?_
        refine OA.pure (dst := (some 71)) (v := (.bool false)) rfl rfl rfl rfl ?_
        refine OA.pure (dst := (some 72)) (v := (.bool false)) rfl rfl rfl rfl ?_
        refine OA.nil ?_
        intro _
        refine RA.rebase [(0, (.agg ⟨[(.int .i64 typ), (.string v)]⟩)), (1, (W id)), (2, (.agg ⟨[(W a), (W b)]⟩)), (3, (.pointer (some ⟨n, 0, some 0⟩))), (5, (.pointer (some ⟨(n + 1), 0, some 0⟩))), (6, (.bool false)), (7, (.pointer (some ⟨(n + 2), 0, some 0⟩))), (8, (W id)), (9, (W a)), (10, (W b)), (11, (.bool true)), (72, (.bool false))] ⟨rfl, rfl, rfl, rfl, rfl, rfl, rfl, rfl, rfl, rfl, rfl, rfl, trivial⟩ (fun τr5 => ?_)
        refine RA.cond (t := false) rfl (fun hc => ?_) (fun hc => ?_)
        · cases hc
        ·
          refine RA.skip env_ok ?_
          intro _
          refine RA.seq hd ?_
          refine RA.region env_ok ?_
          refine OA.pure (dst := (some 74)) (v := (.agg ⟨[(.int .i64 typ), (.string (v.extract 0 (min v.size 30)))]⟩)) rfl rfl rfl (r_loadA rfl rfl rfl rfl get_here rfl rfl rfl) ?_
          by_cases hc4 : tagsOk typ (v.extract 0 (min v.size 30))
          ·
            refine OA.callP (dst := (some 75)) (all := [(.agg ⟨[(.int .i64 typ), (.string (v.extract 0 (min v.size 30)))]⟩)]) (v := (.tuple ⟨[(W (w32 (v.extract 0 (min v.size 30)) 0)), (W (w32 (v.extract 0 (min v.size 30)) 4)), (W (w32 (v.extract 0 (min v.size 30)) 8)), (.bool true)]⟩)) (hd.of (by omega) (by intro i hi; simp only [keys, List.cons_append, List.nil_append, List.map_cons, List.map_nil, List.mem_cons, List.not_mem_nil, or_false, false_or] at hi; omega)) rfl rfl rfl rfl rfl rfl rfl rfl (sAs1 typ (v.extract 0 (min v.size 30)) (by rw [size_cut _ _ _ (by omega)]; omega) hc4) ?_
            intro n6 hn6
            refine OA.pure (dst := (some 73)) (v := (.tuple ⟨[(W (w32 (v.extract 0 (min v.size 30)) 0)), (W (w32 (v.extract 0 (min v.size 30)) 4)), (W (w32 (v.extract 0 (min v.size 30)) 8)), (.bool true)]⟩)) rfl rfl rfl rfl ?_
            refine OA.pure (dst := (some 76)) (v := (W (w32 (v.extract 0 (min v.size 30)) 0))) rfl rfl rfl rfl ?_
            refine OA.pure (dst := (some 77)) (v := (W (w32 (v.extract 0 (min v.size 30)) 4))) rfl rfl rfl rfl ?_
            refine OA.pure (dst := (some 78)) (v := (W (w32 (v.extract 0 (min v.size 30)) 8))) rfl rfl rfl rfl ?_
            refine OA.pure (dst := (some 79)) (v := (.bool true)) rfl rfl rfl rfl ?_
            refine OA.pure (dst := (some 12)) (v := (W (w32 (v.extract 0 (min v.size 30)) 0))) rfl rfl rfl rfl ?_
            refine OA.pure (dst := (some 13)) (v := (W (w32 (v.extract 0 (min v.size 30)) 4))) rfl rfl rfl rfl ?_
            refine OA.pure (dst := (some 14)) (v := (W (w32 (v.extract 0 (min v.size 30)) 8))) rfl rfl rfl rfl ?_
            refine OA.pure (dst := (some 15)) (v := (.bool true)) rfl rfl rfl rfl ?_
            refine OA.nil ?_
            intro _
            refine RA.seq hd ?_
            refine RA.seq hd ?_
            refine RA.region env_ok ?_
            refine OA.pure (dst := (some 80)) (v := (.pointer (some ⟨(n + 2), 0, some 0⟩))) rfl rfl rfl rfl ?_
            refine OA.pure (dst := (some 81)) (v := (.int .i64 typ)) rfl rfl rfl (r_load1 rfl rfl rfl rfl rfl get_here rfl rfl) ?_
            by_cases hc5 : typ ≠ 49160
            ·
              refine OA.pure (dst := (some 82)) (v := (.bool true)) rfl rfl rfl (Eq.trans (r_bin rfl rfl rfl (b_neq rfl)) (by first | (rw [decide_eq_true hc5]; done) | (rw [decide_eq_true hc5]; rfl))) ?_
              refine OA.pure (dst := (some 83)) (v := (.bool true)) rfl rfl rfl rfl ?_
              refine OA.off (dst := (some 84)) rfl rfl rfl ?_
              refine OA.off (dst := (some 85)) rfl rfl rfl ?_
              refine OA.off (dst := (some 86)) rfl rfl rfl ?_
              refine OA.off (dst := (some 87)) rfl rfl rfl ?_
              refine OA.pure (dst := (some 88)) (v := (.bool true)) rfl rfl rfl rfl ?_
              refine OA.nil ?_
              intro _
              refine RA.cond (t := true) rfl (fun hc => ?_) (fun hc => ?_)
              ·
                refine RA.seq hd ?_
                refine RA.region env_ok ?_
                refine OA.pure (dst := (some 89)) (v := (.bool true)) rfl rfl rfl rfl ?_
                refine OA.pure (dst := (some 90)) (v := (.bool false)) rfl rfl rfl rfl ?_
                refine OA.pure (dst := (some 6)) (v := (.bool false)) rfl rfl rfl rfl ?_
                refine OA.nil ?_
                intro _
                refine RA.ret env_ok ?_
                refine ⟨.inr rfl, [(.bool false)], (resL_cons rfl resL_nil), (by exfalso; first | omega | (unfold tagsOk at *; omega)), (by intro i hi; simp only [keys, List.cons_append, List.nil_append, List.map_cons, List.map_nil, List.mem_cons, List.not_mem_nil, or_false, false_or] at hi; omega)⟩
              · cases hc
            ·
              refine OA.pure (dst := (some 82)) (v := (.bool false)) rfl rfl rfl (Eq.trans (r_bin rfl rfl rfl (b_neq rfl)) (by first | (rw [decide_eq_false hc5]; done) | (rw [decide_eq_false hc5]; rfl))) ?_
              refine OA.pure (dst := (some 83)) (v := (.bool false)) rfl rfl rfl rfl ?_
              refine OA.pure (dst := (some 84)) (v := (.pointer (some ⟨(n + 2), 0, some 1⟩))) rfl rfl rfl rfl ?_
              refine OA.pure (dst := (some 85)) (v := (.string (v.extract 0 (min v.size 30)))) rfl rfl rfl (r_load1 rfl rfl rfl rfl rfl get_here rfl rfl) ?_
              refine OA.pure (dst := (some 86)) (v := (.int .i64 (((v.extract 0 (min v.size 30)).size : Nat) : Int))) rfl rfl rfl rfl ?_
              by_cases hc6 : (((v.extract 0 (min v.size 30)).size : Nat) : Int) ≠ 12
              ·
                refine OA.pure (dst := (some 87)) (v := (.bool true)) rfl rfl rfl (Eq.trans (r_bin rfl rfl rfl (b_neq rfl)) (by first | (rw [decide_eq_true hc6]; done) | (rw [decide_eq_true hc6]; rfl))) ?_
                refine OA.pure (dst := (some 88)) (v := (.bool true)) rfl rfl rfl rfl ?_
                refine OA.nil ?_
                intro _
                refine RA.cond (t := true) rfl (fun hc => ?_) (fun hc => ?_)
                ·
                  refine RA.seq hd ?_
                  refine RA.region env_ok ?_
                  refine OA.pure (dst := (some 89)) (v := (.bool true)) rfl rfl rfl rfl ?_
                  refine OA.pure (dst := (some 90)) (v := (.bool false)) rfl rfl rfl rfl ?_
                  refine OA.pure (dst := (some 6)) (v := (.bool false)) rfl rfl rfl rfl ?_
                  refine OA.nil ?_
                  intro _
                  refine RA.ret env_ok ?_
                  refine ⟨.inr rfl, [(.bool false)], (resL_cons rfl resL_nil), (by exfalso; first | omega | (unfold tagsOk at *; omega)), (by intro i hi; simp only [keys, List.cons_append, List.nil_append, List.map_cons, List.map_nil, List.mem_cons, List.not_mem_nil, or_false, false_or] at hi; omega)⟩
                · cases hc
              ·
                refine OA.pure (dst := (some 87)) (v := (.bool false)) rfl rfl rfl (Eq.trans (r_bin rfl rfl rfl (b_neq rfl)) (by first | (rw [decide_eq_false hc6]; done) | (rw [decide_eq_false hc6]; rfl))) ?_
                refine OA.pure (dst := (some 88)) (v := (.bool false)) rfl rfl rfl rfl ?_
                refine OA.nil ?_
                intro _
                refine RA.cond (t := false) rfl (fun hc => ?_) (fun hc => ?_)
                · cases hc
                ·
                  refine RA.skip env_ok ?_
                  intro _
                  refine RA.seq hd ?_
                  refine RA.region env_ok ?_
                  refine OA.pure (dst := (some 91)) (v := (.pointer (some ⟨(n + 2), 0, some 1⟩))) rfl rfl rfl rfl ?_
                  refine OA.pure (dst := (some 92)) (v := (.string (v.extract 0 (min v.size 30)))) rfl rfl rfl (r_load1 rfl rfl rfl rfl rfl get_here rfl rfl) ?_
                  refine OA.pure (dst := (some 93)) (v := (.string ((v.extract 0 (min v.size 30)).extract 4 8))) rfl rfl rfl (r_cut (a := 4) (b := 8) rfl rfl (fun _ => rfl) (fun _ => rfl) rfl rfl rfl rfl (by omega) (by omega) rfl) ?_
                  by_cases hc7 : ((v.extract 0 (min v.size 30)).extract 4 8) = (ByteArray.mk #[0, 0, 0, 0])
                  ·
                    have qhc7 : (w32 (v.extract 0 (min v.size 30)) 4).toNat = 0 := (hz4 (by omega)).1 hc7
                    refine OA.pure (dst := (some 94)) (v := (.bool true)) rfl rfl rfl (Eq.trans (r_eqlS rfl rfl rfl) (by first | (rw [decide_eq_true hc7]; done) | (rw [decide_eq_true hc7]; rfl))) ?_
                    refine OA.pure (dst := (some 95)) (v := (.bool true)) rfl rfl rfl rfl ?_
                    refine OA.off (dst := (some 96)) rfl rfl rfl ?_
                    refine OA.off (dst := (some 97)) rfl rfl rfl ?_
                    refine OA.off (dst := (some 98)) rfl rfl rfl ?_
                    refine OA.off (dst := (some 99)) rfl rfl rfl ?_
                    refine OA.pure (dst := (some 100)) (v := (.bool true)) rfl rfl rfl rfl ?_
                    refine OA.pure (dst := (some 16)) (v := (.bool true)) rfl rfl rfl rfl ?_
                    refine OA.nil ?_
                    intro _
                    refine RA.rebase [(0, (.agg ⟨[(.int .i64 typ), (.string v)]⟩)), (1, (W id)), (2, (.agg ⟨[(W a), (W b)]⟩)), (3, (.pointer (some ⟨n, 0, some 0⟩))), (5, (.pointer (some ⟨(n + 1), 0, some 0⟩))), (6, (.bool false)), (7, (.pointer (some ⟨(n + 2), 0, some 0⟩))), (8, (W id)), (9, (W a)), (10, (W b)), (11, (.bool true)), (12, (W (w32 (v.extract 0 (min v.size 30)) 0))), (13, (W (w32 (v.extract 0 (min v.size 30)) 4))), (14, (W (w32 (v.extract 0 (min v.size 30)) 8))), (15, (.bool true)), (16, (.bool true)), (72, (.bool false)), (88, (.bool false))] ⟨rfl, rfl, rfl, rfl, rfl, rfl, rfl, rfl, rfl, rfl, rfl, rfl, rfl, rfl, rfl, rfl, rfl, rfl, trivial⟩ (fun τr7 => ?_)
                    refine RA.seq hd ?_
                    refine RA.par (md := [some [], some [], some [], some [], some [], some [], some [], some [], some [], some [], some [], some [], some [], some [], some [], some [], some [], some [(n + 2)], some [], some [], some [], some []]) env_ok (hd.of (by omega) (by intro i hi; simp only [keys, List.cons_append, List.nil_append, List.map_cons, List.map_nil, List.mem_cons, List.not_mem_nil, or_false, false_or] at hi; omega)) (by kernel_rfl) ?_
                    refine PQ.pure (dst := (some 101)) (v := (.bool true)) rfl rfl rfl noStore (none_ok _ _) rfl ?_
                    refine PQ.pure (dst := (some 102)) (v := (.bool true)) rfl rfl rfl noStore (none_ok _ _) rfl ?_
                    refine PQ.pure (dst := (some 103)) (v := (.bool false)) rfl rfl rfl noStore (none_ok _ _) rfl ?_
                    refine PQ.pure (dst := (some 104)) (v := (.bool false)) rfl rfl rfl noStore (none_ok _ _) rfl ?_
                    refine PQ.pure (dst := (some 105)) (v := (.bool false)) rfl rfl rfl noStore (none_ok _ _) rfl ?_
                    refine PQ.off (dst := (some 106)) rfl rfl rfl ?_
                    refine PQ.off (dst := (some 107)) rfl rfl rfl ?_
                    refine PQ.off (dst := (some 108)) rfl rfl rfl ?_
                    refine PQ.off (dst := (some 109)) rfl rfl rfl ?_
                    refine PQ.off (dst := (some 110)) rfl rfl rfl ?_
                    refine PQ.off (dst := (some 111)) rfl rfl rfl ?_
                    refine PQ.off (dst := (some 112)) rfl rfl rfl ?_
                    refine PQ.off (dst := (some 113)) rfl rfl rfl ?_
                    refine PQ.off (dst := (some 114)) rfl rfl rfl ?_
                    refine PQ.off (dst := (some 115)) rfl rfl rfl ?_
                    refine PQ.off (dst := (some 116)) rfl rfl rfl ?_
                    refine PQ.off (dst := (some 117)) rfl rfl rfl ?_
                    refine PQ.off (dst := (some 118)) rfl rfl rfl ?_
                    refine PQ.off (dst := (some 119)) rfl rfl rfl ?_
                    refine PQ.off (dst := (some 120)) rfl rfl rfl ?_
                    refine PQ.pure (dst := (some 121)) (v := (.bool false)) rfl rfl rfl noStore (none_ok _ _) rfl ?_
                    refine PQ.pure (dst := (some 6)) (v := (.bool false)) rfl rfl rfl noStore (none_ok _ _) rfl ?_
                    refine PQ.done (d := []) (by kernel_rfl) ?_
                    intro _
                    refine RA.ret env_ok ?_
                    refine ⟨.inr rfl, [(.bool false)], (resL_cons rfl resL_nil), (by exfalso; first | omega | (unfold tagsOk at *; omega)), (by intro i hi; simp only [keys, List.cons_append, List.nil_append, List.map_cons, List.map_nil, List.mem_cons, List.not_mem_nil, or_false, false_or] at hi; omega)⟩
                  ·
                    have qhc7 : ¬ (w32 (v.extract 0 (min v.size 30)) 4).toNat = 0 := fun q => hc7 ((hz4 (by omega)).2 q)
                    refine OA.pure (dst := (some 94)) (v := (.bool false)) rfl rfl rfl (Eq.trans (r_eqlS rfl rfl rfl) (by first | (rw [decide_eq_false hc7]; done) | (rw [decide_eq_false hc7]; rfl))) ?_
                    refine OA.pure (dst := (some 95)) (v := (.bool false)) rfl rfl rfl rfl ?_
                    refine OA.pure (dst := (some 96)) (v := (.pointer (some ⟨(n + 2), 0, some 1⟩))) rfl rfl rfl rfl ?_
                    refine OA.pure (dst := (some 97)) (v := (.string (v.extract 0 (min v.size 30)))) rfl rfl rfl (r_load1 rfl rfl rfl rfl rfl get_here rfl rfl) ?_
                    refine OA.pure (dst := (some 98)) (v := (.string ((v.extract 0 (min v.size 30)).extract 8 (v.extract 0 (min v.size 30)).size))) rfl rfl rfl (r_cut (a := 8) (b := (v.extract 0 (min v.size 30)).size) rfl rfl (fun _ => rfl) (fun _ => rfl) rfl rfl rfl rfl (by omega) (by omega) rfl) ?_
                    by_cases hc8 : ((v.extract 0 (min v.size 30)).extract 8 (v.extract 0 (min v.size 30)).size) = (ByteArray.mk #[0, 0, 0, 0])
                    ·
                      have qhc8 : (w32 (v.extract 0 (min v.size 30)) 8).toNat = 0 := (hz8 (by omega)).1 hc8
                      refine OA.pure (dst := (some 99)) (v := (.bool true)) rfl rfl rfl (Eq.trans (r_eqlS rfl rfl rfl) (by first | (rw [decide_eq_true hc8]; done) | (rw [decide_eq_true hc8]; rfl))) ?_
                      refine OA.pure (dst := (some 100)) (v := (.bool true)) rfl rfl rfl rfl ?_
                      refine OA.pure (dst := (some 16)) (v := (.bool true)) rfl rfl rfl rfl ?_
                      refine OA.nil ?_
                      intro _
                      refine RA.rebase [(0, (.agg ⟨[(.int .i64 typ), (.string v)]⟩)), (1, (W id)), (2, (.agg ⟨[(W a), (W b)]⟩)), (3, (.pointer (some ⟨n, 0, some 0⟩))), (5, (.pointer (some ⟨(n + 1), 0, some 0⟩))), (6, (.bool false)), (7, (.pointer (some ⟨(n + 2), 0, some 0⟩))), (8, (W id)), (9, (W a)), (10, (W b)), (11, (.bool true)), (12, (W (w32 (v.extract 0 (min v.size 30)) 0))), (13, (W (w32 (v.extract 0 (min v.size 30)) 4))), (14, (W (w32 (v.extract 0 (min v.size 30)) 8))), (15, (.bool true)), (16, (.bool true)), (72, (.bool false)), (88, (.bool false))] ⟨rfl, rfl, rfl, rfl, rfl, rfl, rfl, rfl, rfl, rfl, rfl, rfl, rfl, rfl, rfl, rfl, rfl, rfl, trivial⟩ (fun τr8 => ?_)
                      refine RA.seq hd ?_
                      refine RA.par (md := [some [], some [], some [], some [], some [], some [], some [], some [], some [], some [], some [], some [], some [], some [], some [], some [], some [], some [(n + 2)], some [], some [], some [], some []]) env_ok (hd.of (by omega) (by intro i hi; simp only [keys, List.cons_append, List.nil_append, List.map_cons, List.map_nil, List.mem_cons, List.not_mem_nil, or_false, false_or] at hi; omega)) (by kernel_rfl) ?_
                      refine PQ.pure (dst := (some 101)) (v := (.bool true)) rfl rfl rfl noStore (none_ok _ _) rfl ?_
                      refine PQ.pure (dst := (some 102)) (v := (.bool true)) rfl rfl rfl noStore (none_ok _ _) rfl ?_
                      refine PQ.pure (dst := (some 103)) (v := (.bool false)) rfl rfl rfl noStore (none_ok _ _) rfl ?_
                      refine PQ.pure (dst := (some 104)) (v := (.bool false)) rfl rfl rfl noStore (none_ok _ _) rfl ?_
                      refine PQ.pure (dst := (some 105)) (v := (.bool false)) rfl rfl rfl noStore (none_ok _ _) rfl ?_
                      refine PQ.off (dst := (some 106)) rfl rfl rfl ?_
                      refine PQ.off (dst := (some 107)) rfl rfl rfl ?_
                      refine PQ.off (dst := (some 108)) rfl rfl rfl ?_
                      refine PQ.off (dst := (some 109)) rfl rfl rfl ?_
                      refine PQ.off (dst := (some 110)) rfl rfl rfl ?_
                      refine PQ.off (dst := (some 111)) rfl rfl rfl ?_
                      refine PQ.off (dst := (some 112)) rfl rfl rfl ?_
                      refine PQ.off (dst := (some 113)) rfl rfl rfl ?_
                      refine PQ.off (dst := (some 114)) rfl rfl rfl ?_
                      refine PQ.off (dst := (some 115)) rfl rfl rfl ?_
                      refine PQ.off (dst := (some 116)) rfl rfl rfl ?_
                      refine PQ.off (dst := (some 117)) rfl rfl rfl ?_
                      refine PQ.off (dst := (some 118)) rfl rfl rfl ?_
                      refine PQ.off (dst := (some 119)) rfl rfl rfl ?_
                      refine PQ.off (dst := (some 120)) rfl rfl rfl ?_
                      refine PQ.pure (dst := (some 121)) (v := (.bool false)) rfl rfl rfl noStore (none_ok _ _) rfl ?_
                      refine PQ.pure (dst := (some 6)) (v := (.bool false)) rfl rfl rfl noStore (none_ok _ _) rfl ?_
                      refine PQ.done (d := []) (by kernel_rfl) ?_
                      intro _
                      refine RA.ret env_ok ?_
                      refine ⟨.inr rfl, [(.bool false)], (resL_cons rfl resL_nil), (by exfalso; first | omega | (unfold tagsOk at *; omega)), (by intro i hi; simp only [keys, List.cons_append, List.nil_append, List.map_cons, List.map_nil, List.mem_cons, List.not_mem_nil, or_false, false_or] at hi; omega)⟩
                    ·
                      have qhc8 : ¬ (w32 (v.extract 0 (min v.size 30)) 8).toNat = 0 := fun q => hc8 ((hz8 (by omega)).2 q)
                      refine OA.pure (dst := (some 99)) (v := (.bool false)) rfl rfl rfl (Eq.trans (r_eqlS rfl rfl rfl) (by first | (rw [decide_eq_false hc8]; done) | (rw [decide_eq_false hc8]; rfl))) ?_
                      refine OA.pure (dst := (some 100)) (v := (.bool false)) rfl rfl rfl rfl ?_
                      refine OA.pure (dst := (some 16)) (v := (.bool false)) rfl rfl rfl rfl ?_
                      refine OA.nil ?_
                      intro _
                      refine RA.rebase [(0, (.agg ⟨[(.int .i64 typ), (.string v)]⟩)), (1, (W id)), (2, (.agg ⟨[(W a), (W b)]⟩)), (3, (.pointer (some ⟨n, 0, some 0⟩))), (5, (.pointer (some ⟨(n + 1), 0, some 0⟩))), (6, (.bool false)), (7, (.pointer (some ⟨(n + 2), 0, some 0⟩))), (8, (W id)), (9, (W a)), (10, (W b)), (11, (.bool true)), (12, (W (w32 (v.extract 0 (min v.size 30)) 0))), (13, (W (w32 (v.extract 0 (min v.size 30)) 4))), (14, (W (w32 (v.extract 0 (min v.size 30)) 8))), (15, (.bool true)), (16, (.bool false)), (72, (.bool false)), (88, (.bool false))] ⟨rfl, rfl, rfl, rfl, rfl, rfl, rfl, rfl, rfl, rfl, rfl, rfl, rfl, rfl, rfl, rfl, rfl, rfl, trivial⟩ (fun τr9 => ?_)
                      refine RA.seq hd ?_
                      refine RA.par (md := [some [], some [], some [], some [], some [], some [], some [], some [], some [], some [], some [], some [], some [], some [], some [], some [], some [], some [(n + 2)], some [], some [], some [], some []]) env_ok (hd.of (by omega) (by intro i hi; simp only [keys, List.cons_append, List.nil_append, List.map_cons, List.map_nil, List.mem_cons, List.not_mem_nil, or_false, false_or] at hi; omega)) (by kernel_rfl) ?_
                      refine PQ.pure (dst := (some 101)) (v := (.bool true)) rfl rfl rfl noStore (none_ok _ _) rfl ?_
                      refine PQ.pure (dst := (some 102)) (v := (.bool false)) rfl rfl rfl noStore (none_ok _ _) rfl ?_
                      refine PQ.pure (dst := (some 103)) (v := (.bool true)) rfl rfl rfl noStore (none_ok _ _) rfl ?_
                      refine PQ.pure (dst := (some 104)) (v := (.bool true)) rfl rfl rfl noStore (none_ok _ _) rfl ?_
                      refine PQ.pure (dst := (some 105)) (v := (.bool true)) rfl rfl rfl noStore (none_ok _ _) rfl ?_
                      refine PQ.pure (dst := (some 106)) (v := (.bool true)) rfl rfl rfl noStore (none_ok _ _) rfl ?_
                      refine PQ.pure (dst := (some 107)) (v := (.bool false)) rfl rfl rfl noStore (none_ok _ _) rfl ?_
                      refine PQ.pure (dst := (some 108)) (v := (.bool false)) rfl rfl rfl noStore (none_ok _ _) rfl ?_
                      refine PQ.pure (dst := (some 109)) (v := (W (w32 (v.extract 0 (min v.size 30)) 0))) rfl rfl rfl noStore (none_ok _ _) rfl ?_
                      refine PQ.callP (dst := (some 110)) (all := [(W (w32 (v.extract 0 (min v.size 30)) 0))]) (v := (.string (bstr (be4 (w32 (v.extract 0 (min v.size 30)) 0))))) noStore (dom_none _) rfl rfl rfl rfl rfl rfl rfl rfl (none_ok _ _) (sU32 _) ?_
                      intro n10 hn10
                      refine PQ.pure (dst := (some 111)) (v := (W (w32 (v.extract 0 (min v.size 30)) 4))) rfl rfl rfl noStore (none_ok _ _) rfl ?_
                      refine PQ.callP (dst := (some 112)) (all := [(W (w32 (v.extract 0 (min v.size 30)) 4))]) (v := (.string (bstr (be4 (w32 (v.extract 0 (min v.size 30)) 4))))) noStore (dom_none _) rfl rfl rfl rfl rfl rfl rfl rfl (none_ok _ _) (sU32 _) ?_
                      intro n11 hn11
                      refine PQ.pure (dst := (some 113)) (v := (.string ((bstr (be4 (w32 (v.extract 0 (min v.size 30)) 0))) ++ (bstr (be4 (w32 (v.extract 0 (min v.size 30)) 4)))))) rfl rfl rfl noStore (none_ok _ _) (r_cat rfl rfl rfl (by (try simp only [ByteArray.size_append, bstr_size, size_lit, List.size_toArray, List.length_cons, List.length_nil, List.length_take, List.length_drop, List.length_replicate, be4_len]); try omega)) ?_
                      refine PQ.pure (dst := (some 114)) (v := (W (w32 (v.extract 0 (min v.size 30)) 8))) rfl rfl rfl noStore (none_ok _ _) rfl ?_
                      refine PQ.callP (dst := (some 115)) (all := [(W (w32 (v.extract 0 (min v.size 30)) 8))]) (v := (.string (bstr (be4 (w32 (v.extract 0 (min v.size 30)) 8))))) noStore (dom_none _) rfl rfl rfl rfl rfl rfl rfl rfl (none_ok _ _) (sU32 _) ?_
                      intro n12 hn12
                      refine PQ.pure (dst := (some 116)) (v := (.string (((bstr (be4 (w32 (v.extract 0 (min v.size 30)) 0))) ++ (bstr (be4 (w32 (v.extract 0 (min v.size 30)) 4)))) ++ (bstr (be4 (w32 (v.extract 0 (min v.size 30)) 8)))))) rfl rfl rfl noStore (none_ok _ _) (r_cat rfl rfl rfl (by (try simp only [ByteArray.size_append, bstr_size, size_lit, List.size_toArray, List.length_cons, List.length_nil, List.length_take, List.length_drop, List.length_replicate, be4_len]); try omega)) ?_
                      refine PQ.pure (dst := (some 117)) (v := (.pointer (some ⟨(n + 2), 0, some 1⟩))) rfl rfl rfl noStore (none_ok _ _) rfl ?_
                      refine PQ.pure (dst := (some 118)) (v := (.string (v.extract 0 (min v.size 30)))) rfl rfl rfl (app [((n + 2), some ⟨[[(.int .i64 typ), (.string (v.extract 0 (min v.size 30)))]], 2, 65, true⟩)] noStore) (seen_one (V := []) (D := [((n + 2), some ⟨[[(.int .i64 typ), (.string (v.extract 0 (min v.size 30)))]], 2, 65, true⟩), ((n + 2), some ⟨[[(.int .i64 0), (.string ByteArray.empty)]], 2, 65, true⟩), ((n + 1), some ⟨[[(W a), (W b)]], 2, 69, true⟩), (n, some ⟨[[(.int .i64 typ), (.string v)]], 2, 65, true⟩)]) (by kernel_rfl) get_here) (r_load1 rfl rfl rfl rfl rfl get_here rfl rfl) ?_
                      refine PQ.pure (dst := (some 119)) (v := (.bool (decide ((((bstr (be4 (w32 (v.extract 0 (min v.size 30)) 0))) ++ (bstr (be4 (w32 (v.extract 0 (min v.size 30)) 4)))) ++ (bstr (be4 (w32 (v.extract 0 (min v.size 30)) 8)))) = (v.extract 0 (min v.size 30)))))) rfl rfl rfl noStore (none_ok _ _) (r_eqlS rfl rfl rfl) ?_
                      refine PQ.pure (dst := (some 120)) (v := (.bool (decide ((((bstr (be4 (w32 (v.extract 0 (min v.size 30)) 0))) ++ (bstr (be4 (w32 (v.extract 0 (min v.size 30)) 4)))) ++ (bstr (be4 (w32 (v.extract 0 (min v.size 30)) 8)))) = (v.extract 0 (min v.size 30)))))) rfl rfl rfl noStore (none_ok _ _) rfl ?_
                      refine PQ.pure (dst := (some 121)) (v := (.bool (decide ((((bstr (be4 (w32 (v.extract 0 (min v.size 30)) 0))) ++ (bstr (be4 (w32 (v.extract 0 (min v.size 30)) 4)))) ++ (bstr (be4 (w32 (v.extract 0 (min v.size 30)) 8)))) = (v.extract 0 (min v.size 30)))))) rfl rfl rfl noStore (none_ok _ _) rfl ?_
                      refine PQ.pure (dst := (some 6)) (v := (.bool (decide ((((bstr (be4 (w32 (v.extract 0 (min v.size 30)) 0))) ++ (bstr (be4 (w32 (v.extract 0 (min v.size 30)) 4)))) ++ (bstr (be4 (w32 (v.extract 0 (min v.size 30)) 8)))) = (v.extract 0 (min v.size 30)))))) rfl rfl rfl noStore (none_ok _ _) rfl ?_
                      refine PQ.done (d := []) (by kernel_rfl) ?_
                      intro _
                      refine RA.ret env_ok ?_
                      refine ⟨.inr rfl, [(.bool (decide ((((bstr (be4 (w32 (v.extract 0 (min v.size 30)) 0))) ++ (bstr (be4 (w32 (v.extract 0 (min v.size 30)) 4)))) ++ (bstr (be4 (w32 (v.extract 0 (min v.size 30)) 8)))) = (v.extract 0 (min v.size 30)))))], (resL_cons rfl resL_nil), (cat_done (cat_at (by unfold tagsOk at *; omega))), (by intro i hi; simp only [keys, List.cons_append, List.nil_append, List.map_cons, List.map_nil, List.mem_cons, List.not_mem_nil, or_false, false_or] at hi; omega)⟩
          ·
            refine OA.callP (dst := (some 75)) (all := [(.agg ⟨[(.int .i64 typ), (.string (v.extract 0 (min v.size 30)))]⟩)]) (v := (.tuple ⟨[(W 0#32), (W 0#32), (W 0#32), (.bool false)]⟩)) (hd.of (by omega) (by intro i hi; simp only [keys, List.cons_append, List.nil_append, List.map_cons, List.map_nil, List.mem_cons, List.not_mem_nil, or_false, false_or] at hi; omega)) rfl rfl rfl rfl rfl rfl rfl rfl (sAs0 typ (v.extract 0 (min v.size 30)) (by rw [size_cut _ _ _ (by omega)]; omega) hc4) ?_
            intro n13 hn13
            refine OA.pure (dst := (some 73)) (v := (.tuple ⟨[(W 0#32), (W 0#32), (W 0#32), (.bool false)]⟩)) rfl rfl rfl rfl ?_
            refine OA.pure (dst := (some 76)) (v := (W 0#32)) rfl rfl rfl rfl ?_
            refine OA.pure (dst := (some 77)) (v := (W 0#32)) rfl rfl rfl rfl ?_
            refine OA.pure (dst := (some 78)) (v := (W 0#32)) rfl rfl rfl rfl ?_
            refine OA.pure (dst := (some 79)) (v := (.bool false)) rfl rfl rfl rfl ?_
            refine OA.pure (dst := (some 12)) (v := (W 0#32)) rfl rfl rfl rfl ?_
            refine OA.pure (dst := (some 13)) (v := (W 0#32)) rfl rfl rfl rfl ?_
            refine OA.pure (dst := (some 14)) (v := (W 0#32)) rfl rfl rfl rfl ?_
            refine OA.pure (dst := (some 15)) (v := (.bool false)) rfl rfl rfl rfl ?_
            refine OA.nil ?_
            intro _
            refine RA.seq hd ?_
            refine RA.seq hd ?_
            refine RA.region env_ok ?_
            refine OA.pure (dst := (some 80)) (v := (.pointer (some ⟨(n + 2), 0, some 0⟩))) rfl rfl rfl rfl ?_
            refine OA.pure (dst := (some 81)) (v := (.int .i64 typ)) rfl rfl rfl (r_load1 rfl rfl rfl rfl rfl get_here rfl rfl) ?_
            by_cases hc9 : typ ≠ 49160
            ·
              refine OA.pure (dst := (some 82)) (v := (.bool true)) rfl rfl rfl (Eq.trans (r_bin rfl rfl rfl (b_neq rfl)) (by first | (rw [decide_eq_true hc9]; done) | (rw [decide_eq_true hc9]; rfl))) ?_
              refine OA.pure (dst := (some 83)) (v := (.bool true)) rfl rfl rfl rfl ?_
              refine OA.off (dst := (some 84)) rfl rfl rfl ?_
              refine OA.off (dst := (some 85)) rfl rfl rfl ?_
              refine OA.off (dst := (some 86)) rfl rfl rfl ?_
              refine OA.off (dst := (some 87)) rfl rfl rfl ?_
              refine OA.pure (dst := (some 88)) (v := (.bool true)) rfl rfl rfl rfl ?_
              refine OA.nil ?_
              intro _
              refine RA.cond (t := true) rfl (fun hc => ?_) (fun hc => ?_)
              ·
                refine RA.seq hd ?_
                refine RA.region env_ok ?_
                refine OA.pure (dst := (some 89)) (v := (.bool false)) rfl rfl rfl rfl ?_
                refine OA.pure (dst := (some 90)) (v := (.bool true)) rfl rfl rfl rfl ?_
                refine OA.pure (dst := (some 6)) (v := (.bool true)) rfl rfl rfl rfl ?_
                refine OA.nil ?_
                intro _
                refine RA.ret env_ok ?_
                refine ⟨.inr rfl, [(.bool true)], (resL_cons rfl resL_nil), rfl, (by intro i hi; simp only [keys, List.cons_append, List.nil_append, List.map_cons, List.map_nil, List.mem_cons, List.not_mem_nil, or_false, false_or] at hi; omega)⟩
              · cases hc
            ·
              refine OA.pure (dst := (some 82)) (v := (.bool false)) rfl rfl rfl (Eq.trans (r_bin rfl rfl rfl (b_neq rfl)) (by first | (rw [decide_eq_false hc9]; done) | (rw [decide_eq_false hc9]; rfl))) ?_
              refine OA.pure (dst := (some 83)) (v := (.bool false)) rfl rfl rfl rfl ?_
              refine OA.pure (dst := (some 84)) (v := (.pointer (some ⟨(n + 2), 0, some 1⟩))) rfl rfl rfl rfl ?_
              refine OA.pure (dst := (some 85)) (v := (.string (v.extract 0 (min v.size 30)))) rfl rfl rfl (r_load1 rfl rfl rfl rfl rfl get_here rfl rfl) ?_
              refine OA.pure (dst := (some 86)) (v := (.int .i64 (((v.extract 0 (min v.size 30)).size : Nat) : Int))) rfl rfl rfl rfl ?_
              by_cases hc10 : (((v.extract 0 (min v.size 30)).size : Nat) : Int) ≠ 12
              ·
                refine OA.pure (dst := (some 87)) (v := (.bool true)) rfl rfl rfl (Eq.trans (r_bin rfl rfl rfl (b_neq rfl)) (by first | (rw [decide_eq_true hc10]; done) | (rw [decide_eq_true hc10]; rfl))) ?_
                refine OA.pure (dst := (some 88)) (v := (.bool true)) rfl rfl rfl rfl ?_
                refine OA.nil ?_
                intro _
                refine RA.cond (t := true) rfl (fun hc => ?_) (fun hc => ?_)
                ·
                  refine RA.seq hd ?_
                  refine RA.region env_ok ?_
                  refine OA.pure (dst := (some 89)) (v := (.bool false)) rfl rfl rfl rfl ?_
                  refine OA.pure (dst := (some 90)) (v := (.bool true)) rfl rfl rfl rfl ?_
                  refine OA.pure (dst := (some 6)) (v := (.bool true)) rfl rfl rfl rfl ?_
                  refine OA.nil ?_
                  intro _
                  refine RA.ret env_ok ?_
                  refine ⟨.inr rfl, [(.bool true)], (resL_cons rfl resL_nil), rfl, (by intro i hi; simp only [keys, List.cons_append, List.nil_append, List.map_cons, List.map_nil, List.mem_cons, List.not_mem_nil, or_false, false_or] at hi; omega)⟩
                · cases hc
              ·
                refine OA.pure (dst := (some 87)) (v := (.bool false)) rfl rfl rfl (Eq.trans (r_bin rfl rfl rfl (b_neq rfl)) (by first | (rw [decide_eq_false hc10]; done) | (rw [decide_eq_false hc10]; rfl))) ?_
                refine OA.pure (dst := (some 88)) (v := (.bool false)) rfl rfl rfl rfl ?_
                refine OA.nil ?_
                intro _
                refine RA.cond (t := false) rfl (fun hc => ?_) (fun hc => ?_)
                · cases hc
                ·
                  refine RA.skip env_ok ?_
                  intro _
                  refine RA.seq hd ?_
                  refine RA.region env_ok ?_
                  refine OA.pure (dst := (some 91)) (v := (.pointer (some ⟨(n + 2), 0, some 1⟩))) rfl rfl rfl rfl ?_
                  refine OA.pure (dst := (some 92)) (v := (.string (v.extract 0 (min v.size 30)))) rfl rfl rfl (r_load1 rfl rfl rfl rfl rfl get_here rfl rfl) ?_
                  refine OA.pure (dst := (some 93)) (v := (.string ((v.extract 0 (min v.size 30)).extract 4 8))) rfl rfl rfl (r_cut (a := 4) (b := 8) rfl rfl (fun _ => rfl) (fun _ => rfl) rfl rfl rfl rfl (by omega) (by omega) rfl) ?_
                  by_cases hc11 : ((v.extract 0 (min v.size 30)).extract 4 8) = (ByteArray.mk #[0, 0, 0, 0])
                  ·
                    have qhc11 : (w32 (v.extract 0 (min v.size 30)) 4).toNat = 0 := (hz4 (by omega)).1 hc11
                    refine OA.pure (dst := (some 94)) (v := (.bool true)) rfl rfl rfl (Eq.trans (r_eqlS rfl rfl rfl) (by first | (rw [decide_eq_true hc11]; done) | (rw [decide_eq_true hc11]; rfl))) ?_
                    refine OA.pure (dst := (some 95)) (v := (.bool true)) rfl rfl rfl rfl ?_
                    refine OA.off (dst := (some 96)) rfl rfl rfl ?_
                    refine OA.off (dst := (some 97)) rfl rfl rfl ?_
                    refine OA.off (dst := (some 98)) rfl rfl rfl ?_
                    refine OA.off (dst := (some 99)) rfl rfl rfl ?_
                    refine OA.pure (dst := (some 100)) (v := (.bool true)) rfl rfl rfl rfl ?_
                    refine OA.pure (dst := (some 16)) (v := (.bool true)) rfl rfl rfl rfl ?_
                    refine OA.nil ?_
                    intro _
                    refine RA.rebase [(0, (.agg ⟨[(.int .i64 typ), (.string v)]⟩)), (1, (W id)), (2, (.agg ⟨[(W a), (W b)]⟩)), (3, (.pointer (some ⟨n, 0, some 0⟩))), (5, (.pointer (some ⟨(n + 1), 0, some 0⟩))), (6, (.bool false)), (7, (.pointer (some ⟨(n + 2), 0, some 0⟩))), (8, (W id)), (9, (W a)), (10, (W b)), (11, (.bool true)), (12, (W 0#32)), (13, (W 0#32)), (14, (W 0#32)), (15, (.bool false)), (16, (.bool true)), (72, (.bool false)), (88, (.bool false))] ⟨rfl, rfl, rfl, rfl, rfl, rfl, rfl, rfl, rfl, rfl, rfl, rfl, rfl, rfl, rfl, rfl, rfl, rfl, trivial⟩ (fun τr14 => ?_)
                    refine RA.seq hd ?_
                    refine RA.par (md := [some [], some [], some [], some [], some [], some [], some [], some [], some [], some [], some [], some [], some [], some [], some [], some [], some [], some [(n + 2)], some [], some [], some [], some []]) env_ok (hd.of (by omega) (by intro i hi; simp only [keys, List.cons_append, List.nil_append, List.map_cons, List.map_nil, List.mem_cons, List.not_mem_nil, or_false, false_or] at hi; omega)) (by kernel_rfl) ?_
                    refine PQ.pure (dst := (some 101)) (v := (.bool false)) rfl rfl rfl noStore (none_ok _ _) rfl ?_
                    refine PQ.pure (dst := (some 102)) (v := (.bool true)) rfl rfl rfl noStore (none_ok _ _) rfl ?_
                    refine PQ.pure (dst := (some 103)) (v := (.bool false)) rfl rfl rfl noStore (none_ok _ _) rfl ?_
                    refine PQ.pure (dst := (some 104)) (v := (.bool true)) rfl rfl rfl noStore (none_ok _ _) rfl ?_
                    refine PQ.pure (dst := (some 105)) (v := (.bool true)) rfl rfl rfl noStore (none_ok _ _) rfl ?_
                    refine PQ.pure (dst := (some 106)) (v := (.bool false)) rfl rfl rfl noStore (none_ok _ _) rfl ?_
                    refine PQ.pure (dst := (some 107)) (v := (.bool true)) rfl rfl rfl noStore (none_ok _ _) rfl ?_
                    refine PQ.pure (dst := (some 108)) (v := (.bool true)) rfl rfl rfl noStore (none_ok _ _) rfl ?_
                    refine PQ.off (dst := (some 109)) rfl rfl rfl ?_
                    refine PQ.off (dst := (some 110)) rfl rfl rfl ?_
                    refine PQ.off (dst := (some 111)) rfl rfl rfl ?_
                    refine PQ.off (dst := (some 112)) rfl rfl rfl ?_
                    refine PQ.off (dst := (some 113)) rfl rfl rfl ?_
                    refine PQ.off (dst := (some 114)) rfl rfl rfl ?_
                    refine PQ.off (dst := (some 115)) rfl rfl rfl ?_
                    refine PQ.off (dst := (some 116)) rfl rfl rfl ?_
                    refine PQ.off (dst := (some 117)) rfl rfl rfl ?_
                    refine PQ.off (dst := (some 118)) rfl rfl rfl ?_
                    refine PQ.off (dst := (some 119)) rfl rfl rfl ?_
                    refine PQ.pure (dst := (some 120)) (v := (.bool true)) rfl rfl rfl noStore (none_ok _ _) rfl ?_
                    refine PQ.pure (dst := (some 121)) (v := (.bool true)) rfl rfl rfl noStore (none_ok _ _) rfl ?_
                    refine PQ.pure (dst := (some 6)) (v := (.bool true)) rfl rfl rfl noStore (none_ok _ _) rfl ?_
                    refine PQ.done (d := []) (by kernel_rfl) ?_
                    intro _
                    refine RA.ret env_ok ?_
                    refine ⟨.inr rfl, [(.bool true)], (resL_cons rfl resL_nil), rfl, (by intro i hi; simp only [keys, List.cons_append, List.nil_append, List.map_cons, List.map_nil, List.mem_cons, List.not_mem_nil, or_false, false_or] at hi; omega)⟩
                  ·
                    have qhc11 : ¬ (w32 (v.extract 0 (min v.size 30)) 4).toNat = 0 := fun q => hc11 ((hz4 (by omega)).2 q)
                    refine OA.pure (dst := (some 94)) (v := (.bool false)) rfl rfl rfl (Eq.trans (r_eqlS rfl rfl rfl) (by first | (rw [decide_eq_false hc11]; done) | (rw [decide_eq_false hc11]; rfl))) ?_
                    refine OA.pure (dst := (some 95)) (v := (.bool false)) rfl rfl rfl rfl ?_
                    refine OA.pure (dst := (some 96)) (v := (.pointer (some ⟨(n + 2), 0, some 1⟩))) rfl rfl rfl rfl ?_
                    refine OA.pure (dst := (some 97)) (v := (.string (v.extract 0 (min v.size 30)))) rfl rfl rfl (r_load1 rfl rfl rfl rfl rfl get_here rfl rfl) ?_
                    refine OA.pure (dst := (some 98)) (v := (.string ((v.extract 0 (min v.size 30)).extract 8 (v.extract 0 (min v.size 30)).size))) rfl rfl rfl (r_cut (a := 8) (b := (v.extract 0 (min v.size 30)).size) rfl rfl (fun _ => rfl) (fun _ => rfl) rfl rfl rfl rfl (by omega) (by omega) rfl) ?_
                    by_cases hc12 : ((v.extract 0 (min v.size 30)).extract 8 (v.extract 0 (min v.size 30)).size) = (ByteArray.mk #[0, 0, 0, 0])
                    ·
                      have qhc12 : (w32 (v.extract 0 (min v.size 30)) 8).toNat = 0 := (hz8 (by omega)).1 hc12
                      refine OA.pure (dst := (some 99)) (v := (.bool true)) rfl rfl rfl (Eq.trans (r_eqlS rfl rfl rfl) (by first | (rw [decide_eq_true hc12]; done) | (rw [decide_eq_true hc12]; rfl))) ?_
                      refine OA.pure (dst := (some 100)) (v := (.bool true)) rfl rfl rfl rfl ?_
                      refine OA.pure (dst := (some 16)) (v := (.bool true)) rfl rfl rfl rfl ?_
                      refine OA.nil ?_
                      intro _
                      refine RA.rebase [(0, (.agg ⟨[(.int .i64 typ), (.string v)]⟩)), (1, (W id)), (2, (.agg ⟨[(W a), (W b)]⟩)), (3, (.pointer (some ⟨n, 0, some 0⟩))), (5, (.pointer (some ⟨(n + 1), 0, some 0⟩))), (6, (.bool false)), (7, (.pointer (some ⟨(n + 2), 0, some 0⟩))), (8, (W id)), (9, (W a)), (10, (W b)), (11, (.bool true)), (12, (W 0#32)), (13, (W 0#32)), (14, (W 0#32)), (15, (.bool false)), (16, (.bool true)), (72, (.bool false)), (88, (.bool false))] ⟨rfl, rfl, rfl, rfl, rfl, rfl, rfl, rfl, rfl, rfl, rfl, rfl, rfl, rfl, rfl, rfl, rfl, rfl, trivial⟩ (fun τr15 => ?_)
                      refine RA.seq hd ?_
                      refine RA.par (md := [some [], some [], some [], some [], some [], some [], some [], some [], some [], some [], some [], some [], some [], some [], some [], some [], some [], some [(n + 2)], some [], some [], some [], some []]) env_ok (hd.of (by omega) (by intro i hi; simp only [keys, List.cons_append, List.nil_append, List.map_cons, List.map_nil, List.mem_cons, List.not_mem_nil, or_false, false_or] at hi; omega)) (by kernel_rfl) ?_
                      refine PQ.pure (dst := (some 101)) (v := (.bool false)) rfl rfl rfl noStore (none_ok _ _) rfl ?_
                      refine PQ.pure (dst := (some 102)) (v := (.bool true)) rfl rfl rfl noStore (none_ok _ _) rfl ?_
                      refine PQ.pure (dst := (some 103)) (v := (.bool false)) rfl rfl rfl noStore (none_ok _ _) rfl ?_
                      refine PQ.pure (dst := (some 104)) (v := (.bool true)) rfl rfl rfl noStore (none_ok _ _) rfl ?_
                      refine PQ.pure (dst := (some 105)) (v := (.bool true)) rfl rfl rfl noStore (none_ok _ _) rfl ?_
                      refine PQ.pure (dst := (some 106)) (v := (.bool false)) rfl rfl rfl noStore (none_ok _ _) rfl ?_
                      refine PQ.pure (dst := (some 107)) (v := (.bool true)) rfl rfl rfl noStore (none_ok _ _) rfl ?_
                      refine PQ.pure (dst := (some 108)) (v := (.bool true)) rfl rfl rfl noStore (none_ok _ _) rfl ?_
                      refine PQ.off (dst := (some 109)) rfl rfl rfl ?_
                      refine PQ.off (dst := (some 110)) rfl rfl rfl ?_
                      refine PQ.off (dst := (some 111)) rfl rfl rfl ?_
                      refine PQ.off (dst := (some 112)) rfl rfl rfl ?_
                      refine PQ.off (dst := (some 113)) rfl rfl rfl ?_
                      refine PQ.off (dst := (some 114)) rfl rfl rfl ?_
                      refine PQ.off (dst := (some 115)) rfl rfl rfl ?_
                      refine PQ.off (dst := (some 116)) rfl rfl rfl ?_
                      refine PQ.off (dst := (some 117)) rfl rfl rfl ?_
                      refine PQ.off (dst := (some 118)) rfl rfl rfl ?_
                      refine PQ.off (dst := (some 119)) rfl rfl rfl ?_
                      refine PQ.pure (dst := (some 120)) (v := (.bool true)) rfl rfl rfl noStore (none_ok _ _) rfl ?_
                      refine PQ.pure (dst := (some 121)) (v := (.bool true)) rfl rfl rfl noStore (none_ok _ _) rfl ?_
                      refine PQ.pure (dst := (some 6)) (v := (.bool true)) rfl rfl rfl noStore (none_ok _ _) rfl ?_
                      refine PQ.done (d := []) (by kernel_rfl) ?_
                      intro _
                      refine RA.ret env_ok ?_
                      refine ⟨.inr rfl, [(.bool true)], (resL_cons rfl resL_nil), rfl, (by intro i hi; simp only [keys, List.cons_append, List.nil_append, List.map_cons, List.map_nil, List.mem_cons, List.not_mem_nil, or_false, false_or] at hi; omega)⟩
                    ·
                      have qhc12 : ¬ (w32 (v.extract 0 (min v.size 30)) 8).toNat = 0 := fun q => hc12 ((hz8 (by omega)).2 q)
                      refine OA.pure (dst := (some 99)) (v := (.bool false)) rfl rfl rfl (Eq.trans (r_eqlS rfl rfl rfl) (by first | (rw [decide_eq_false hc12]; done) | (rw [decide_eq_false hc12]; rfl))) ?_
                      refine OA.pure (dst := (some 100)) (v := (.bool false)) rfl rfl rfl rfl ?_
                      refine OA.pure (dst := (some 16)) (v := (.bool false)) rfl rfl rfl rfl ?_
                      refine OA.nil ?_
                      intro _
                      refine RA.rebase [(0, (.agg ⟨[(.int .i64 typ), (.string v)]⟩)), (1, (W id)), (2, (.agg ⟨[(W a), (W b)]⟩)), (3, (.pointer (some ⟨n, 0, some 0⟩))), (5, (.pointer (some ⟨(n + 1), 0, some 0⟩))), (6, (.bool false)), (7, (.pointer (some ⟨(n + 2), 0, some 0⟩))), (8, (W id)), (9, (W a)), (10, (W b)), (11, (.bool true)), (12, (W 0#32)), (13, (W 0#32)), (14, (W 0#32)), (15, (.bool false)), (16, (.bool false)), (72, (.bool false)), (88, (.bool false))] ⟨rfl, rfl, rfl, rfl, rfl, rfl, rfl, rfl, rfl, rfl, rfl, rfl, rfl, rfl, rfl, rfl, rfl, rfl, trivial⟩ (fun τr16 => ?_)
                      refine RA.seq hd ?_
                      refine RA.par (md := [some [], some [], some [], some [], some [], some [], some [], some [], some [], some [], some [], some [], some [], some [], some [], some [], some [], some [(n + 2)], some [], some [], some [], some []]) env_ok (hd.of (by omega) (by intro i hi; simp only [keys, List.cons_append, List.nil_append, List.map_cons, List.map_nil, List.mem_cons, List.not_mem_nil, or_false, false_or] at hi; omega)) (by kernel_rfl) ?_
                      refine PQ.pure (dst := (some 101)) (v := (.bool false)) rfl rfl rfl noStore (none_ok _ _) rfl ?_
                      refine PQ.pure (dst := (some 102)) (v := (.bool false)) rfl rfl rfl noStore (none_ok _ _) rfl ?_
                      refine PQ.pure (dst := (some 103)) (v := (.bool true)) rfl rfl rfl noStore (none_ok _ _) rfl ?_
                      refine PQ.pure (dst := (some 104)) (v := (.bool false)) rfl rfl rfl noStore (none_ok _ _) rfl ?_
                      refine PQ.pure (dst := (some 105)) (v := (.bool false)) rfl rfl rfl noStore (none_ok _ _) rfl ?_
                      refine PQ.off (dst := (some 106)) rfl rfl rfl ?_
                      refine PQ.off (dst := (some 107)) rfl rfl rfl ?_
                      refine PQ.off (dst := (some 108)) rfl rfl rfl ?_
                      refine PQ.off (dst := (some 109)) rfl rfl rfl ?_
                      refine PQ.off (dst := (some 110)) rfl rfl rfl ?_
                      refine PQ.off (dst := (some 111)) rfl rfl rfl ?_
                      refine PQ.off (dst := (some 112)) rfl rfl rfl ?_
                      refine PQ.off (dst := (some 113)) rfl rfl rfl ?_
                      refine PQ.off (dst := (some 114)) rfl rfl rfl ?_
                      refine PQ.off (dst := (some 115)) rfl rfl rfl ?_
                      refine PQ.off (dst := (some 116)) rfl rfl rfl ?_
                      refine PQ.off (dst := (some 117)) rfl rfl rfl ?_
                      refine PQ.off (dst := (some 118)) rfl rfl rfl ?_
                      refine PQ.off (dst := (some 119)) rfl rfl rfl ?_
                      refine PQ.off (dst := (some 120)) rfl rfl rfl ?_
                      refine PQ.pure (dst := (some 121)) (v := (.bool false)) rfl rfl rfl noStore (none_ok _ _) rfl ?_
                      refine PQ.pure (dst := (some 6)) (v := (.bool false)) rfl rfl rfl noStore (none_ok _ _) rfl ?_
                      refine PQ.done (d := []) (by kernel_rfl) ?_
                      intro _
                      refine RA.ret env_ok ?_
                      refine ⟨.inr rfl, [(.bool false)], (resL_cons rfl resL_nil), (by exfalso; first | omega | (unfold tagsOk at *; omega)), (by intro i hi; simp only [keys, List.cons_append, List.nil_append, List.map_cons, List.map_nil, List.mem_cons, List.not_mem_nil, or_false, false_or] at hi; omega)⟩
      ·
        refine OA.pure (dst := (some 49)) (v := (.bool false)) rfl rfl rfl (Eq.trans (r_bin rfl rfl rfl (b_neq rfl)) (by first | (rw [decide_eq_false hc3]; done) | (rw [decide_eq_false hc3]; rfl))) ?_
        refine OA.pure (dst := (some 50)) (v := (.bool false)) rfl rfl rfl rfl ?_
        refine OA.pure (dst := (some 51)) (v := (.bool true)) rfl rfl rfl rfl ?_
        refine OA.pure (dst := (some 52)) (v := (.bool true)) rfl rfl rfl rfl ?_
        refine OA.pure (dst := (some 53)) (v := (.bool true)) rfl rfl rfl rfl ?_
        refine OA.off (dst := (some 54)) rfl rfl rfl ?_
        refine OA.off (dst := (some 55)) rfl rfl rfl ?_
        refine OA.off (dst := (some 56)) rfl rfl rfl ?_
        refine OA.off (dst := (some 57)) rfl rfl rfl ?_
        refine OA.off (dst := (some 58)) rfl rfl rfl ?_
        refine OA.off (dst := (some 59)) rfl rfl rfl ?_
        refine OA.off (dst := (some 60)) rfl rfl rfl ?_
        refine OA.off (dst := (some 61)) rfl rfl rfl ?_
        refine OA.off (dst := (some 62)) rfl rfl rfl ?_
        refine OA.off (dst := (some 63)) rfl rfl rfl ?_
        refine OA.off (dst := (some 64)) rfl rfl rfl ?_
        refine OA.off (dst := (some 65)) rfl rfl rfl ?_
        refine OA.off (dst := (some 66)) rfl rfl rfl ?_
        refine OA.off (dst := (some 67)) rfl rfl rfl ?_
        refine OA.off (dst := (some 68)) rfl rfl rfl ?_
        refine OA.off (dst := (some 69)) rfl rfl rfl ?_
        refine OA.off (dst := (some 70)) rfl rfl rfl ?_
        refine OA.off (dst := (some 71)) rfl rfl rfl ?_
        refine OA.pure (dst := (some 72)) (v := (.bool true)) rfl rfl rfl rfl ?_
        refine OA.nil ?_
        intro _
        refine RA.rebase [(0, (.agg ⟨[(.int .i64 typ), (.string v)]⟩)), (1, (W id)), (2, (.agg ⟨[(W a), (W b)]⟩)), (3, (.pointer (some ⟨n, 0, some 0⟩))), (5, (.pointer (some ⟨(n + 1), 0, some 0⟩))), (6, (.bool false)), (7, (.pointer (some ⟨(n + 2), 0, some 0⟩))), (8, (W id)), (9, (W a)), (10, (W b)), (11, (.bool true)), (72, (.bool true))] ⟨rfl, rfl, rfl, rfl, rfl, rfl, rfl, rfl, rfl, rfl, rfl, rfl, trivial⟩ (fun τr17 => ?_)
        refine RA.cond (t := true) rfl (fun hc => ?_) (fun hc => ?_)
        ·
          refine RA.seq hd ?_
          refine RA.region env_ok ?_
          refine OA.pure (dst := (some 6)) (v := (.bool false)) rfl rfl rfl rfl ?_
          refine OA.nil ?_
          intro _
          refine RA.ret env_ok ?_
          refine ⟨.inr rfl, [(.bool false)], (resL_cons rfl resL_nil), (by exfalso; first | omega | (unfold tagsOk at *; omega)), (by intro i hi; simp only [keys, List.cons_append, List.nil_append, List.map_cons, List.map_nil, List.mem_cons, List.not_mem_nil, or_false, false_or] at hi; omega)⟩
        · cases hc
    ·
      refine OA.pure (dst := (some 45)) (v := (.bool false)) rfl rfl rfl (Eq.trans (r_bin rfl rfl rfl (b_neq rfl)) (by first | (rw [decide_eq_false hc2]; done) | (rw [decide_eq_false hc2]; rfl))) ?_
      refine OA.pure (dst := (some 46)) (v := (.bool false)) rfl rfl rfl rfl ?_
      refine OA.off (dst := (some 47)) rfl rfl rfl ?_
      refine OA.off (dst := (some 48)) rfl rfl rfl ?_
      refine OA.off (dst := (some 49)) rfl rfl rfl ?_
      refine OA.pure (dst := (some 50)) (v := (.bool false)) rfl rfl rfl rfl ?_
      refine OA.pure (dst := (some 51)) (v := (.bool true)) rfl rfl rfl rfl ?_
      refine OA.pure (dst := (some 52)) (v := (.bool true)) rfl rfl rfl rfl ?_
      refine OA.pure (dst := (some 53)) (v := (.bool true)) rfl rfl rfl rfl ?_
      refine OA.off (dst := (some 54)) rfl rfl rfl ?_
      refine OA.off (dst := (some 55)) rfl rfl rfl ?_
      refine OA.off (dst := (some 56)) rfl rfl rfl ?_
      refine OA.off (dst := (some 57)) rfl rfl rfl ?_
      refine OA.off (dst := (some 58)) rfl rfl rfl ?_
      refine OA.off (dst := (some 59)) rfl rfl rfl ?_
      refine OA.off (dst := (some 60)) rfl rfl rfl ?_
      refine OA.off (dst := (some 61)) rfl rfl rfl ?_
      refine OA.off (dst := (some 62)) rfl rfl rfl ?_
      refine OA.off (dst := (some 63)) rfl rfl rfl ?_
      refine OA.off (dst := (some 64)) rfl rfl rfl ?_
      refine OA.off (dst := (some 65)) rfl rfl rfl ?_
      refine OA.off (dst := (some 66)) rfl rfl rfl ?_
      refine OA.off (dst := (some 67)) rfl rfl rfl ?_
      refine OA.off (dst := (some 68)) rfl rfl rfl ?_
      refine OA.off (dst := (some 69)) rfl rfl rfl ?_
      refine OA.off (dst := (some 70)) rfl rfl rfl ?_
      refine OA.off (dst := (some 71)) rfl rfl rfl ?_
      refine OA.pure (dst := (some 72)) (v := (.bool true)) rfl rfl rfl rfl ?_
      refine OA.nil ?_
      intro _
      refine RA.rebase [(0, (.agg ⟨[(.int .i64 typ), (.string v)]⟩)), (1, (W id)), (2, (.agg ⟨[(W a), (W b)]⟩)), (3, (.pointer (some ⟨n, 0, some 0⟩))), (5, (.pointer (some ⟨(n + 1), 0, some 0⟩))), (6, (.bool false)), (7, (.pointer (some ⟨(n + 2), 0, some 0⟩))), (8, (W id)), (9, (W a)), (10, (W b)), (11, (.bool true)), (72, (.bool true))] ⟨rfl, rfl, rfl, rfl, rfl, rfl, rfl, rfl, rfl, rfl, rfl, rfl, trivial⟩ (fun τr18 => ?_)
      refine RA.cond (t := true) rfl (fun hc => ?_) (fun hc => ?_)
      ·
        refine RA.seq hd ?_
        refine RA.region env_ok ?_
        refine OA.pure (dst := (some 6)) (v := (.bool false)) rfl rfl rfl rfl ?_
        refine OA.nil ?_
        intro _
        refine RA.ret env_ok ?_
        refine ⟨.inr rfl, [(.bool false)], (resL_cons rfl resL_nil), (by exfalso; first | omega | (unfold tagsOk at *; omega)), (by intro i hi; simp only [keys, List.cons_append, List.nil_append, List.map_cons, List.map_nil, List.mem_cons, List.not_mem_nil, or_false, false_or] at hi; omega)⟩
      · cases hc
  ·
    refine OA.callP (dst := (some 34)) (all := [(.agg ⟨[(.int .i64 49160), (.string (tagsV id a b))]⟩)]) (v := (.tuple ⟨[(W 0#32), (W 0#32), (W 0#32), (.bool false)]⟩)) (hd.of (by omega) (by intro i hi; simp only [keys, List.cons_append, List.nil_append, List.map_cons, List.map_nil, List.mem_cons, List.not_mem_nil, or_false, false_or] at hi; omega)) rfl rfl rfl rfl rfl rfl rfl rfl (sTT0 _ _ _ hc1) ?_
    intro n19 hn19
    refine OA.pure (dst := (some 27)) (v := (.tuple ⟨[(W 0#32), (W 0#32), (W 0#32), (.bool false)]⟩)) rfl rfl rfl rfl ?_
    refine OA.pure (dst := (some 35)) (v := (W 0#32)) rfl rfl rfl rfl ?_
    refine OA.pure (dst := (some 36)) (v := (W 0#32)) rfl rfl rfl rfl ?_
    refine OA.pure (dst := (some 37)) (v := (W 0#32)) rfl rfl rfl rfl ?_
    refine OA.pure (dst := (some 38)) (v := (.bool false)) rfl rfl rfl rfl ?_
    refine OA.pure (dst := (some 8)) (v := (W 0#32)) rfl rfl rfl rfl ?_
    refine OA.pure (dst := (some 9)) (v := (W 0#32)) rfl rfl rfl rfl ?_
    refine OA.pure (dst := (some 10)) (v := (W 0#32)) rfl rfl rfl rfl ?_
    refine OA.pure (dst := (some 11)) (v := (.bool false)) rfl rfl rfl rfl ?_
    refine OA.nil ?_
    intro _
    refine RA.rebase [(0, (.agg ⟨[(.int .i64 typ), (.string v)]⟩)), (1, (W id)), (2, (.agg ⟨[(W a), (W b)]⟩)), (3, (.pointer (some ⟨n, 0, some 0⟩))), (5, (.pointer (some ⟨(n + 1), 0, some 0⟩))), (6, (.bool false)), (7, (.pointer (some ⟨(n + 2), 0, some 0⟩))), (8, (W 0#32)), (9, (W 0#32)), (10, (W 0#32)), (11, (.bool false))] ⟨rfl, rfl, rfl, rfl, rfl, rfl, rfl, rfl, rfl, rfl, rfl, trivial⟩ (fun τr20 => ?_)
    refine RA.seq hd ?_
    refine RA.seq hd ?_
    refine RA.region env_ok ?_
    refine OA.callP (dst := (some 39)) (all := []) (v := (.bool true)) (hd.of (by omega) (by intro i hi; simp only [keys, List.cons_append, List.nil_append, List.map_cons, List.map_nil, List.mem_cons, List.not_mem_nil, or_false, false_or] at hi; omega)) rfl rfl rfl rfl rfl rfl rfl rfl awake ?_
    intro n21 hn21
    refine OA.pure (dst := (some 40)) (v := (.bool false)) rfl rfl rfl rfl ?_
    refine OA.pure (dst := (some 41)) (v := (.bool false)) rfl rfl rfl rfl ?_
    refine OA.pure (dst := (some 42)) (v := (.bool false)) rfl rfl rfl rfl ?_
    refine OA.pure (dst := (some 43)) (v := (.pointer (some ⟨(n + 1), 0, some 0⟩))) rfl rfl rfl (r_iaA (l := 0) rfl rfl rfl rfl rfl rfl (by omega) (by omega) (by show 0 + 0 * 1 = 0; omega)) ?_
    refine OA.pure (dst := (some 44)) (v := (W a)) rfl rfl rfl (r_load1 rfl rfl rfl rfl rfl (get_there (by omega) (get_there (by omega) get_here)) rfl rfl) ?_
    by_cases hc13 : (a.toNat : Int) ≠ 0
    ·
      refine OA.pure (dst := (some 45)) (v := (.bool true)) rfl rfl rfl (Eq.trans (r_bin rfl rfl rfl (b_neq rfl)) (by first | (rw [decide_eq_true hc13]; done) | (rw [decide_eq_true hc13]; rfl))) ?_
      refine OA.pure (dst := (some 46)) (v := (.bool true)) rfl rfl rfl rfl ?_
      refine OA.pure (dst := (some 47)) (v := (.pointer (some ⟨(n + 1), 0, some 1⟩))) rfl rfl rfl (r_iaA (l := 1) rfl rfl rfl rfl rfl rfl (by omega) (by omega) (by show 0 + 1 * 1 = 1; omega)) ?_
      refine OA.pure (dst := (some 48)) (v := (W b)) rfl rfl rfl (r_load1 rfl rfl rfl rfl rfl (get_there (by omega) (get_there (by omega) get_here)) rfl rfl) ?_
      by_cases hc14 : (b.toNat : Int) ≠ 0
      ·
        refine OA.pure (dst := (some 49)) (v := (.bool true)) rfl rfl rfl (Eq.trans (r_bin rfl rfl rfl (b_neq rfl)) (by first | (rw [decide_eq_true hc14]; done) | (rw [decide_eq_true hc14]; rfl))) ?_
        refine OA.pure (dst := (some 50)) (v := (.bool true)) rfl rfl rfl rfl ?_
        refine OA.pure (dst := (some 51)) (v := (.bool true)) rfl rfl rfl rfl ?_
        refine OA.pure (dst := (some 52)) (v := (.bool true)) rfl rfl rfl rfl ?_
        refine OA.pure (dst := (some 53)) (v := (.bool true)) rfl rfl rfl rfl ?_
        refine OA.off (dst := (some 54)) rfl rfl rfl ?_
        refine OA.off (dst := (some 55)) rfl rfl rfl ?_
        refine OA.off (dst := (some 56)) rfl rfl rfl ?_
        refine OA.off (dst := (some 57)) rfl rfl rfl ?_
        refine OA.off (dst := (some 58)) rfl rfl rfl ?_
        refine OA.off (dst := (some 59)) rfl rfl rfl ?_
        refine OA.off (dst := (some 60)) rfl rfl rfl ?_
        refine OA.off (dst := (some 61)) rfl rfl rfl ?_
        refine OA.off (dst := (some 62)) rfl rfl rfl ?_
        refine OA.off (dst := (some 63)) rfl rfl rfl ?_
        refine OA.off (dst := (some 64)) rfl rfl rfl ?_
        refine OA.off (dst := (some 65)) rfl rfl rfl ?_
        refine OA.off (dst := (some 66)) rfl rfl rfl ?_
        refine OA.off (dst := (some 67)) rfl rfl rfl ?_
        refine OA.off (dst := (some 68)) rfl rfl rfl ?_
        refine OA.off (dst := (some 69)) rfl rfl rfl ?_
        refine OA.off (dst := (some 70)) rfl rfl rfl ?_
        refine OA.off (dst := (some 71)) rfl rfl rfl ?_
        refine OA.pure (dst := (some 72)) (v := (.bool true)) rfl rfl rfl rfl ?_
        refine OA.nil ?_
        intro _
        refine RA.rebase [(0, (.agg ⟨[(.int .i64 typ), (.string v)]⟩)), (1, (W id)), (2, (.agg ⟨[(W a), (W b)]⟩)), (3, (.pointer (some ⟨n, 0, some 0⟩))), (5, (.pointer (some ⟨(n + 1), 0, some 0⟩))), (6, (.bool false)), (7, (.pointer (some ⟨(n + 2), 0, some 0⟩))), (8, (W 0#32)), (9, (W 0#32)), (10, (W 0#32)), (11, (.bool false)), (72, (.bool true))] ⟨rfl, rfl, rfl, rfl, rfl, rfl, rfl, rfl, rfl, rfl, rfl, rfl, trivial⟩ (fun τr22 => ?_)
        refine RA.cond (t := true) rfl (fun hc => ?_) (fun hc => ?_)
        ·
          refine RA.seq hd ?_
          refine RA.region env_ok ?_
          refine OA.pure (dst := (some 6)) (v := (.bool false)) rfl rfl rfl rfl ?_
          refine OA.nil ?_
          intro _
          refine RA.ret env_ok ?_
          refine ⟨.inr rfl, [(.bool false)], (resL_cons rfl resL_nil), (by exfalso; first | omega | (unfold tagsOk at *; omega)), (by intro i hi; simp only [keys, List.cons_append, List.nil_append, List.map_cons, List.map_nil, List.mem_cons, List.not_mem_nil, or_false, false_or] at hi; omega)⟩
        · cases hc
      ·
        refine OA.pure (dst := (some 49)) (v := (.bool false)) rfl rfl rfl (Eq.trans (r_bin rfl rfl rfl (b_neq rfl)) (by first | (rw [decide_eq_false hc14]; done) | (rw [decide_eq_false hc14]; rfl))) ?_
        refine OA.pure (dst := (some 50)) (v := (.bool false)) rfl rfl rfl rfl ?_
        refine OA.pure (dst := (some 51)) (v := (.bool false)) rfl rfl rfl rfl ?_
        refine OA.pure (dst := (some 52)) (v := (.bool false)) rfl rfl rfl rfl ?_
        refine OA.pure (dst := (some 53)) (v := (.bool false)) rfl rfl rfl rfl ?_
        refine OA.pure (dst := (some 54)) (v := (.bool false)) rfl rfl rfl rfl ?_
        refine OA.pure (dst := (some 55)) (v := (.bool false)) rfl rfl rfl rfl ?_
        refine OA.off (dst := (some 56)) rfl rfl rfl ?_
        refine OA.off (dst := (some 57)) rfl rfl rfl ?_
        refine OA.off (dst := (some 58)) rfl rfl rfl ?_
        refine OA.off (dst := (some 59)) rfl rfl rfl ?_
        refine OA.off (dst := (some 60)) rfl rfl rfl ?_
        refine OA.off (dst := (some 61)) rfl rfl rfl ?_
        refine OA.off (dst := (some 62)) rfl rfl rfl ?_
        refine OA.off (dst := (some 63)) rfl rfl rfl ?_
        refine OA.off (dst := (some 64)) rfl rfl rfl ?_
        refine OA.off (dst := (some 65)) rfl rfl rfl ?_
        refine OA.off (dst := (some 66)) rfl rfl rfl ?_
        refine OA.off (dst := (some 67)) rfl rfl rfl ?_
        refine OA.off (dst := (some 68)) rfl rfl rfl ?_
        refine OA.off (dst := (some 69)) rfl rfl rfl ?_
        refine OA.off (dst := (some 70)) rfl rfl rfl ?_
        refine OA.pure (dst := (some 71)) (v := (.bool false)) rfl rfl rfl rfl ?_
        refine OA.pure (dst := (some 72)) (v := (.bool false)) rfl rfl rfl rfl ?_
        refine OA.nil ?_
        intro _
        refine RA.rebase [(0, (.agg ⟨[(.int .i64 typ), (.string v)]⟩)), (1, (W id)), (2, (.agg ⟨[(W a), (W b)]⟩)), (3, (.pointer (some ⟨n, 0, some 0⟩))), (5, (.pointer (some ⟨(n + 1), 0, some 0⟩))), (6, (.bool false)), (7, (.pointer (some ⟨(n + 2), 0, some 0⟩))), (8, (W 0#32)), (9, (W 0#32)), (10, (W 0#32)), (11, (.bool false)), (72, (.bool false))] ⟨rfl, rfl, rfl, rfl, rfl, rfl, rfl, rfl, rfl, rfl, rfl, rfl, trivial⟩ (fun τr23 => ?_)
        refine RA.cond (t := false) rfl (fun hc => ?_) (fun hc => ?_)
        · cases hc
        ·
          refine RA.skip env_ok ?_
          intro _
          refine RA.seq hd ?_
          refine RA.region env_ok ?_
          refine OA.pure (dst := (some 74)) (v := (.agg ⟨[(.int .i64 typ), (.string (v.extract 0 (min v.size 30)))]⟩)) rfl rfl rfl (r_loadA rfl rfl rfl rfl get_here rfl rfl rfl) ?_
          by_cases hc15 : tagsOk typ (v.extract 0 (min v.size 30))
          ·
            refine OA.callP (dst := (some 75)) (all := [(.agg ⟨[(.int .i64 typ), (.string (v.extract 0 (min v.size 30)))]⟩)]) (v := (.tuple ⟨[(W (w32 (v.extract 0 (min v.size 30)) 0)), (W (w32 (v.extract 0 (min v.size 30)) 4)), (W (w32 (v.extract 0 (min v.size 30)) 8)), (.bool true)]⟩)) (hd.of (by omega) (by intro i hi; simp only [keys, List.cons_append, List.nil_append, List.map_cons, List.map_nil, List.mem_cons, List.not_mem_nil, or_false, false_or] at hi; omega)) rfl rfl rfl rfl rfl rfl rfl rfl (sAs1 typ (v.extract 0 (min v.size 30)) (by rw [size_cut _ _ _ (by omega)]; omega) hc15) ?_
            intro n24 hn24
            refine OA.pure (dst := (some 73)) (v := (.tuple ⟨[(W (w32 (v.extract 0 (min v.size 30)) 0)), (W (w32 (v.extract 0 (min v.size 30)) 4)), (W (w32 (v.extract 0 (min v.size 30)) 8)), (.bool true)]⟩)) rfl rfl rfl rfl ?_
            refine OA.pure (dst := (some 76)) (v := (W (w32 (v.extract 0 (min v.size 30)) 0))) rfl rfl rfl rfl ?_
            refine OA.pure (dst := (some 77)) (v := (W (w32 (v.extract 0 (min v.size 30)) 4))) rfl rfl rfl rfl ?_
            refine OA.pure (dst := (some 78)) (v := (W (w32 (v.extract 0 (min v.size 30)) 8))) rfl rfl rfl rfl ?_
            refine OA.pure (dst := (some 79)) (v := (.bool true)) rfl rfl rfl rfl ?_
            refine OA.pure (dst := (some 12)) (v := (W (w32 (v.extract 0 (min v.size 30)) 0))) rfl rfl rfl rfl ?_
            refine OA.pure (dst := (some 13)) (v := (W (w32 (v.extract 0 (min v.size 30)) 4))) rfl rfl rfl rfl ?_
            refine OA.pure (dst := (some 14)) (v := (W (w32 (v.extract 0 (min v.size 30)) 8))) rfl rfl rfl rfl ?_
            refine OA.pure (dst := (some 15)) (v := (.bool true)) rfl rfl rfl rfl ?_
            refine OA.nil ?_
            intro _
            refine RA.seq hd ?_
            refine RA.seq hd ?_
            refine RA.region env_ok ?_
            refine OA.pure (dst := (some 80)) (v := (.pointer (some ⟨(n + 2), 0, some 0⟩))) rfl rfl rfl rfl ?_
            refine OA.pure (dst := (some 81)) (v := (.int .i64 typ)) rfl rfl rfl (r_load1 rfl rfl rfl rfl rfl get_here rfl rfl) ?_
            by_cases hc16 : typ ≠ 49160
            ·
              refine OA.pure (dst := (some 82)) (v := (.bool true)) rfl rfl rfl (Eq.trans (r_bin rfl rfl rfl (b_neq rfl)) (by first | (rw [decide_eq_true hc16]; done) | (rw [decide_eq_true hc16]; rfl))) ?_
              refine OA.pure (dst := (some 83)) (v := (.bool true)) rfl rfl rfl rfl ?_
              refine OA.off (dst := (some 84)) rfl rfl rfl ?_
              refine OA.off (dst := (some 85)) rfl rfl rfl ?_
              refine OA.off (dst := (some 86)) rfl rfl rfl ?_
              refine OA.off (dst := (some 87)) rfl rfl rfl ?_
              refine OA.pure (dst := (some 88)) (v := (.bool true)) rfl rfl rfl rfl ?_
              refine OA.nil ?_
              intro _
              refine RA.cond (t := true) rfl (fun hc => ?_) (fun hc => ?_)
              ·
                refine RA.seq hd ?_
                refine RA.region env_ok ?_
                refine OA.pure (dst := (some 89)) (v := (.bool true)) rfl rfl rfl rfl ?_
                refine OA.pure (dst := (some 90)) (v := (.bool false)) rfl rfl rfl rfl ?_
                refine OA.pure (dst := (some 6)) (v := (.bool false)) rfl rfl rfl rfl ?_
                refine OA.nil ?_
                intro _
                refine RA.ret env_ok ?_
                refine ⟨.inr rfl, [(.bool false)], (resL_cons rfl resL_nil), (by exfalso; first | omega | (unfold tagsOk at *; omega)), (by intro i hi; simp only [keys, List.cons_append, List.nil_append, List.map_cons, List.map_nil, List.mem_cons, List.not_mem_nil, or_false, false_or] at hi; omega)⟩
              · cases hc
            ·
              refine OA.pure (dst := (some 82)) (v := (.bool false)) rfl rfl rfl (Eq.trans (r_bin rfl rfl rfl (b_neq rfl)) (by first | (rw [decide_eq_false hc16]; done) | (rw [decide_eq_false hc16]; rfl))) ?_
              refine OA.pure (dst := (some 83)) (v := (.bool false)) rfl rfl rfl rfl ?_
              refine OA.pure (dst := (some 84)) (v := (.pointer (some ⟨(n + 2), 0, some 1⟩))) rfl rfl rfl rfl ?_
              refine OA.pure (dst := (some 85)) (v := (.string (v.extract 0 (min v.size 30)))) rfl rfl rfl (r_load1 rfl rfl rfl rfl rfl get_here rfl rfl) ?_
              refine OA.pure (dst := (some 86)) (v := (.int .i64 (((v.extract 0 (min v.size 30)).size : Nat) : Int))) rfl rfl rfl rfl ?_
              by_cases hc17 : (((v.extract 0 (min v.size 30)).size : Nat) : Int) ≠ 12
              ·
                refine OA.pure (dst := (some 87)) (v := (.bool true)) rfl rfl rfl (Eq.trans (r_bin rfl rfl rfl (b_neq rfl)) (by first | (rw [decide_eq_true hc17]; done) | (rw [decide_eq_true hc17]; rfl))) ?_
                refine OA.pure (dst := (some 88)) (v := (.bool true)) rfl rfl rfl rfl ?_
                refine OA.nil ?_
                intro _
                refine RA.cond (t := true) rfl (fun hc => ?_) (fun hc => ?_)
                ·
                  refine RA.seq hd ?_
                  refine RA.region env_ok ?_
                  refine OA.pure (dst := (some 89)) (v := (.bool true)) rfl rfl rfl rfl ?_
                  refine OA.pure (dst := (some 90)) (v := (.bool false)) rfl rfl rfl rfl ?_
                  refine OA.pure (dst := (some 6)) (v := (.bool false)) rfl rfl rfl rfl ?_
                  refine OA.nil ?_
                  intro _
                  refine RA.ret env_ok ?_
                  refine ⟨.inr rfl, [(.bool false)], (resL_cons rfl resL_nil), (by exfalso; first | omega | (unfold tagsOk at *; omega)), (by intro i hi; simp only [keys, List.cons_append, List.nil_append, List.map_cons, List.map_nil, List.mem_cons, List.not_mem_nil, or_false, false_or] at hi; omega)⟩
                · cases hc
              ·
                refine OA.pure (dst := (some 87)) (v := (.bool false)) rfl rfl rfl (Eq.trans (r_bin rfl rfl rfl (b_neq rfl)) (by first | (rw [decide_eq_false hc17]; done) | (rw [decide_eq_false hc17]; rfl))) ?_
                refine OA.pure (dst := (some 88)) (v := (.bool false)) rfl rfl rfl rfl ?_
                refine OA.nil ?_
                intro _
                refine RA.cond (t := false) rfl (fun hc => ?_) (fun hc => ?_)
                · cases hc
                ·
                  refine RA.skip env_ok ?_
                  intro _
                  refine RA.seq hd ?_
                  refine RA.region env_ok ?_
                  refine OA.pure (dst := (some 91)) (v := (.pointer (some ⟨(n + 2), 0, some 1⟩))) rfl rfl rfl rfl ?_
                  refine OA.pure (dst := (some 92)) (v := (.string (v.extract 0 (min v.size 30)))) rfl rfl rfl (r_load1 rfl rfl rfl rfl rfl get_here rfl rfl) ?_
                  refine OA.pure (dst := (some 93)) (v := (.string ((v.extract 0 (min v.size 30)).extract 4 8))) rfl rfl rfl (r_cut (a := 4) (b := 8) rfl rfl (fun _ => rfl) (fun _ => rfl) rfl rfl rfl rfl (by omega) (by omega) rfl) ?_
                  by_cases hc18 : ((v.extract 0 (min v.size 30)).extract 4 8) = (ByteArray.mk #[0, 0, 0, 0])
                  ·
                    have qhc18 : (w32 (v.extract 0 (min v.size 30)) 4).toNat = 0 := (hz4 (by omega)).1 hc18
                    refine OA.pure (dst := (some 94)) (v := (.bool true)) rfl rfl rfl (Eq.trans (r_eqlS rfl rfl rfl) (by first | (rw [decide_eq_true hc18]; done) | (rw [decide_eq_true hc18]; rfl))) ?_
                    refine OA.pure (dst := (some 95)) (v := (.bool true)) rfl rfl rfl rfl ?_
                    refine OA.off (dst := (some 96)) rfl rfl rfl ?_
                    refine OA.off (dst := (some 97)) rfl rfl rfl ?_
                    refine OA.off (dst := (some 98)) rfl rfl rfl ?_
                    refine OA.off (dst := (some 99)) rfl rfl rfl ?_
                    refine OA.pure (dst := (some 100)) (v := (.bool true)) rfl rfl rfl rfl ?_
                    refine OA.pure (dst := (some 16)) (v := (.bool true)) rfl rfl rfl rfl ?_
                    refine OA.nil ?_
                    intro _
                    refine RA.rebase [(0, (.agg ⟨[(.int .i64 typ), (.string v)]⟩)), (1, (W id)), (2, (.agg ⟨[(W a), (W b)]⟩)), (3, (.pointer (some ⟨n, 0, some 0⟩))), (5, (.pointer (some ⟨(n + 1), 0, some 0⟩))), (6, (.bool false)), (7, (.pointer (some ⟨(n + 2), 0, some 0⟩))), (8, (W 0#32)), (9, (W 0#32)), (10, (W 0#32)), (11, (.bool false)), (12, (W (w32 (v.extract 0 (min v.size 30)) 0))), (13, (W (w32 (v.extract 0 (min v.size 30)) 4))), (14, (W (w32 (v.extract 0 (min v.size 30)) 8))), (15, (.bool true)), (16, (.bool true)), (72, (.bool false)), (88, (.bool false))] ⟨rfl, rfl, rfl, rfl, rfl, rfl, rfl, rfl, rfl, rfl, rfl, rfl, rfl, rfl, rfl, rfl, rfl, rfl, trivial⟩ (fun τr25 => ?_)
                    refine RA.seq hd ?_
                    refine RA.par (md := [some [], some [], some [], some [], some [], some [], some [], some [], some [], some [], some [], some [], some [], some [], some [], some [], some [], some [(n + 2)], some [], some [], some [], some []]) env_ok (hd.of (by omega) (by intro i hi; simp only [keys, List.cons_append, List.nil_append, List.map_cons, List.map_nil, List.mem_cons, List.not_mem_nil, or_false, false_or] at hi; omega)) (by kernel_rfl) ?_
                    refine PQ.pure (dst := (some 101)) (v := (.bool true)) rfl rfl rfl noStore (none_ok _ _) rfl ?_
                    refine PQ.pure (dst := (some 102)) (v := (.bool true)) rfl rfl rfl noStore (none_ok _ _) rfl ?_
                    refine PQ.pure (dst := (some 103)) (v := (.bool false)) rfl rfl rfl noStore (none_ok _ _) rfl ?_
                    refine PQ.pure (dst := (some 104)) (v := (.bool false)) rfl rfl rfl noStore (none_ok _ _) rfl ?_
                    refine PQ.pure (dst := (some 105)) (v := (.bool false)) rfl rfl rfl noStore (none_ok _ _) rfl ?_
                    refine PQ.off (dst := (some 106)) rfl rfl rfl ?_
                    refine PQ.off (dst := (some 107)) rfl rfl rfl ?_
                    refine PQ.off (dst := (some 108)) rfl rfl rfl ?_
                    refine PQ.off (dst := (some 109)) rfl rfl rfl ?_
                    refine PQ.off (dst := (some 110)) rfl rfl rfl ?_
                    refine PQ.off (dst := (some 111)) rfl rfl rfl ?_
                    refine PQ.off (dst := (some 112)) rfl rfl rfl ?_
                    refine PQ.off (dst := (some 113)) rfl rfl rfl ?_
                    refine PQ.off (dst := (some 114)) rfl rfl rfl ?_
                    refine PQ.off (dst := (some 115)) rfl rfl rfl ?_
                    refine PQ.off (dst := (some 116)) rfl rfl rfl ?_
                    refine PQ.off (dst := (some 117)) rfl rfl rfl ?_
                    refine PQ.off (dst := (some 118)) rfl rfl rfl ?_
                    refine PQ.off (dst := (some 119)) rfl rfl rfl ?_
                    refine PQ.off (dst := (some 120)) rfl rfl rfl ?_
                    refine PQ.pure (dst := (some 121)) (v := (.bool false)) rfl rfl rfl noStore (none_ok _ _) rfl ?_
                    refine PQ.pure (dst := (some 6)) (v := (.bool false)) rfl rfl rfl noStore (none_ok _ _) rfl ?_
                    refine PQ.done (d := []) (by kernel_rfl) ?_
                    intro _
                    refine RA.ret env_ok ?_
                    refine ⟨.inr rfl, [(.bool false)], (resL_cons rfl resL_nil), (by exfalso; first | omega | (unfold tagsOk at *; omega)), (by intro i hi; simp only [keys, List.cons_append, List.nil_append, List.map_cons, List.map_nil, List.mem_cons, List.not_mem_nil, or_false, false_or] at hi; omega)⟩
                  ·
                    have qhc18 : ¬ (w32 (v.extract 0 (min v.size 30)) 4).toNat = 0 := fun q => hc18 ((hz4 (by omega)).2 q)
                    refine OA.pure (dst := (some 94)) (v := (.bool false)) rfl rfl rfl (Eq.trans (r_eqlS rfl rfl rfl) (by first | (rw [decide_eq_false hc18]; done) | (rw [decide_eq_false hc18]; rfl))) ?_
                    refine OA.pure (dst := (some 95)) (v := (.bool false)) rfl rfl rfl rfl ?_
                    refine OA.pure (dst := (some 96)) (v := (.pointer (some ⟨(n + 2), 0, some 1⟩))) rfl rfl rfl rfl ?_
                    refine OA.pure (dst := (some 97)) (v := (.string (v.extract 0 (min v.size 30)))) rfl rfl rfl (r_load1 rfl rfl rfl rfl rfl get_here rfl rfl) ?_
                    refine OA.pure (dst := (some 98)) (v := (.string ((v.extract 0 (min v.size 30)).extract 8 (v.extract 0 (min v.size 30)).size))) rfl rfl rfl (r_cut (a := 8) (b := (v.extract 0 (min v.size 30)).size) rfl rfl (fun _ => rfl) (fun _ => rfl) rfl rfl rfl rfl (by omega) (by omega) rfl) ?_
                    by_cases hc19 : ((v.extract 0 (min v.size 30)).extract 8 (v.extract 0 (min v.size 30)).size) = (ByteArray.mk #[0, 0, 0, 0])
                    ·
                      have qhc19 : (w32 (v.extract 0 (min v.size 30)) 8).toNat = 0 := (hz8 (by omega)).1 hc19
                      refine OA.pure (dst := (some 99)) (v := (.bool true)) rfl rfl rfl (Eq.trans (r_eqlS rfl rfl rfl) (by first | (rw [decide_eq_true hc19]; done) | (rw [decide_eq_true hc19]; rfl))) ?_
                      refine OA.pure (dst := (some 100)) (v := (.bool true)) rfl rfl rfl rfl ?_
                      refine OA.pure (dst := (some 16)) (v := (.bool true)) rfl rfl rfl rfl ?_
                      refine OA.nil ?_
                      intro _
                      refine RA.rebase [(0, (.agg ⟨[(.int .i64 typ), (.string v)]⟩)), (1, (W id)), (2, (.agg ⟨[(W a), (W b)]⟩)), (3, (.pointer (some ⟨n, 0, some 0⟩))), (5, (.pointer (some ⟨(n + 1), 0, some 0⟩))), (6, (.bool false)), (7, (.pointer (some ⟨(n + 2), 0, some 0⟩))), (8, (W 0#32)), (9, (W 0#32)), (10, (W 0#32)), (11, (.bool false)), (12, (W (w32 (v.extract 0 (min v.size 30)) 0))), (13, (W (w32 (v.extract 0 (min v.size 30)) 4))), (14, (W (w32 (v.extract 0 (min v.size 30)) 8))), (15, (.bool true)), (16, (.bool true)), (72, (.bool false)), (88, (.bool false))] ⟨rfl, rfl, rfl, rfl, rfl, rfl, rfl, rfl, rfl, rfl, rfl, rfl, rfl, rfl, rfl, rfl, rfl, rfl, trivial⟩ (fun τr26 => ?_)
                      refine RA.seq hd ?_
                      refine RA.par (md := [some [], some [], some [], some [], some [], some [], some [], some [], some [], some [], some [], some [], some [], some [], some [], some [], some [], some [(n + 2)], some [], some [], some [], some []]) env_ok (hd.of (by omega) (by intro i hi; simp only [keys, List.cons_append, List.nil_append, List.map_cons, List.map_nil, List.mem_cons, List.not_mem_nil, or_false, false_or] at hi; omega)) (by kernel_rfl) ?_
                      refine PQ.pure (dst := (some 101)) (v := (.bool true)) rfl rfl rfl noStore (none_ok _ _) rfl ?_
                      refine PQ.pure (dst := (some 102)) (v := (.bool true)) rfl rfl rfl noStore (none_ok _ _) rfl ?_
                      refine PQ.pure (dst := (some 103)) (v := (.bool false)) rfl rfl rfl noStore (none_ok _ _) rfl ?_
                      refine PQ.pure (dst := (some 104)) (v := (.bool false)) rfl rfl rfl noStore (none_ok _ _) rfl ?_
                      refine PQ.pure (dst := (some 105)) (v := (.bool false)) rfl rfl rfl noStore (none_ok _ _) rfl ?_
                      refine PQ.off (dst := (some 106)) rfl rfl rfl ?_
                      refine PQ.off (dst := (some 107)) rfl rfl rfl ?_
                      refine PQ.off (dst := (some 108)) rfl rfl rfl ?_
                      refine PQ.off (dst := (some 109)) rfl rfl rfl ?_
                      refine PQ.off (dst := (some 110)) rfl rfl rfl ?_
                      refine PQ.off (dst := (some 111)) rfl rfl rfl ?_
                      refine PQ.off (dst := (some 112)) rfl rfl rfl ?_
                      refine PQ.off (dst := (some 113)) rfl rfl rfl ?_
                      refine PQ.off (dst := (some 114)) rfl rfl rfl ?_
                      refine PQ.off (dst := (some 115)) rfl rfl rfl ?_
                      refine PQ.off (dst := (some 116)) rfl rfl rfl ?_
                      refine PQ.off (dst := (some 117)) rfl rfl rfl ?_
                      refine PQ.off (dst := (some 118)) rfl rfl rfl ?_
                      refine PQ.off (dst := (some 119)) rfl rfl rfl ?_
                      refine PQ.off (dst := (some 120)) rfl rfl rfl ?_
                      refine PQ.pure (dst := (some 121)) (v := (.bool false)) rfl rfl rfl noStore (none_ok _ _) rfl ?_
                      refine PQ.pure (dst := (some 6)) (v := (.bool false)) rfl rfl rfl noStore (none_ok _ _) rfl ?_
                      refine PQ.done (d := []) (by kernel_rfl) ?_
                      intro _
                      refine RA.ret env_ok ?_
                      refine ⟨.inr rfl, [(.bool false)], (resL_cons rfl resL_nil), (by exfalso; first | omega | (unfold tagsOk at *; omega)), (by intro i hi; simp only [keys, List.cons_append, List.nil_append, List.map_cons, List.map_nil, List.mem_cons, List.not_mem_nil, or_false, false_or] at hi; omega)⟩
                    ·
                      have qhc19 : ¬ (w32 (v.extract 0 (min v.size 30)) 8).toNat = 0 := fun q => hc19 ((hz8 (by omega)).2 q)
                      refine OA.pure (dst := (some 99)) (v := (.bool false)) rfl rfl rfl (Eq.trans (r_eqlS rfl rfl rfl) (by first | (rw [decide_eq_false hc19]; done) | (rw [decide_eq_false hc19]; rfl))) ?_
                      refine OA.pure (dst := (some 100)) (v := (.bool false)) rfl rfl rfl rfl ?_
                      refine OA.pure (dst := (some 16)) (v := (.bool false)) rfl rfl rfl rfl ?_
                      refine OA.nil ?_
                      intro _
                      refine RA.rebase [(0, (.agg ⟨[(.int .i64 typ), (.string v)]⟩)), (1, (W id)), (2, (.agg ⟨[(W a), (W b)]⟩)), (3, (.pointer (some ⟨n, 0, some 0⟩))), (5, (.pointer (some ⟨(n + 1), 0, some 0⟩))), (6, (.bool false)), (7, (.pointer (some ⟨(n + 2), 0, some 0⟩))), (8, (W 0#32)), (9, (W 0#32)), (10, (W 0#32)), (11, (.bool false)), (12, (W (w32 (v.extract 0 (min v.size 30)) 0))), (13, (W (w32 (v.extract 0 (min v.size 30)) 4))), (14, (W (w32 (v.extract 0 (min v.size 30)) 8))), (15, (.bool true)), (16, (.bool false)), (72, (.bool false)), (88, (.bool false))] ⟨rfl, rfl, rfl, rfl, rfl, rfl, rfl, rfl, rfl, rfl, rfl, rfl, rfl, rfl, rfl, rfl, rfl, rfl, trivial⟩ (fun τr27 => ?_)
                      refine RA.seq hd ?_
                      refine RA.par (md := [some [], some [], some [], some [], some [], some [], some [], some [], some [], some [], some [], some [], some [], some [], some [], some [], some [], some [(n + 2)], some [], some [], some [], some []]) env_ok (hd.of (by omega) (by intro i hi; simp only [keys, List.cons_append, List.nil_append, List.map_cons, List.map_nil, List.mem_cons, List.not_mem_nil, or_false, false_or] at hi; omega)) (by kernel_rfl) ?_
                      refine PQ.pure (dst := (some 101)) (v := (.bool true)) rfl rfl rfl noStore (none_ok _ _) rfl ?_
                      refine PQ.pure (dst := (some 102)) (v := (.bool false)) rfl rfl rfl noStore (none_ok _ _) rfl ?_
                      refine PQ.pure (dst := (some 103)) (v := (.bool true)) rfl rfl rfl noStore (none_ok _ _) rfl ?_
                      refine PQ.pure (dst := (some 104)) (v := (.bool true)) rfl rfl rfl noStore (none_ok _ _) rfl ?_
                      refine PQ.pure (dst := (some 105)) (v := (.bool true)) rfl rfl rfl noStore (none_ok _ _) rfl ?_
                      refine PQ.pure (dst := (some 106)) (v := (.bool true)) rfl rfl rfl noStore (none_ok _ _) rfl ?_
                      refine PQ.pure (dst := (some 107)) (v := (.bool false)) rfl rfl rfl noStore (none_ok _ _) rfl ?_
                      refine PQ.pure (dst := (some 108)) (v := (.bool false)) rfl rfl rfl noStore (none_ok _ _) rfl ?_
                      refine PQ.pure (dst := (some 109)) (v := (W (w32 (v.extract 0 (min v.size 30)) 0))) rfl rfl rfl noStore (none_ok _ _) rfl ?_
                      refine PQ.callP (dst := (some 110)) (all := [(W (w32 (v.extract 0 (min v.size 30)) 0))]) (v := (.string (bstr (be4 (w32 (v.extract 0 (min v.size 30)) 0))))) noStore (dom_none _) rfl rfl rfl rfl rfl rfl rfl rfl (none_ok _ _) (sU32 _) ?_
                      intro n28 hn28
                      refine PQ.pure (dst := (some 111)) (v := (W (w32 (v.extract 0 (min v.size 30)) 4))) rfl rfl rfl noStore (none_ok _ _) rfl ?_
                      refine PQ.callP (dst := (some 112)) (all := [(W (w32 (v.extract 0 (min v.size 30)) 4))]) (v := (.string (bstr (be4 (w32 (v.extract 0 (min v.size 30)) 4))))) noStore (dom_none _) rfl rfl rfl rfl rfl rfl rfl rfl (none_ok _ _) (sU32 _) ?_
                      intro n29 hn29
                      refine PQ.pure (dst := (some 113)) (v := (.string ((bstr (be4 (w32 (v.extract 0 (min v.size 30)) 0))) ++ (bstr (be4 (w32 (v.extract 0 (min v.size 30)) 4)))))) rfl rfl rfl noStore (none_ok _ _) (r_cat rfl rfl rfl (by (try simp only [ByteArray.size_append, bstr_size, size_lit, List.size_toArray, List.length_cons, List.length_nil, List.length_take, List.length_drop, List.length_replicate, be4_len]); try omega)) ?_
                      refine PQ.pure (dst := (some 114)) (v := (W (w32 (v.extract 0 (min v.size 30)) 8))) rfl rfl rfl noStore (none_ok _ _) rfl ?_
                      refine PQ.callP (dst := (some 115)) (all := [(W (w32 (v.extract 0 (min v.size 30)) 8))]) (v := (.string (bstr (be4 (w32 (v.extract 0 (min v.size 30)) 8))))) noStore (dom_none _) rfl rfl rfl rfl rfl rfl rfl rfl (none_ok _ _) (sU32 _) ?_
                      intro n30 hn30
                      refine PQ.pure (dst := (some 116)) (v := (.string (((bstr (be4 (w32 (v.extract 0 (min v.size 30)) 0))) ++ (bstr (be4 (w32 (v.extract 0 (min v.size 30)) 4)))) ++ (bstr (be4 (w32 (v.extract 0 (min v.size 30)) 8)))))) rfl rfl rfl noStore (none_ok _ _) (r_cat rfl rfl rfl (by (try simp only [ByteArray.size_append, bstr_size, size_lit, List.size_toArray, List.length_cons, List.length_nil, List.length_take, List.length_drop, List.length_replicate, be4_len]); try omega)) ?_
                      refine PQ.pure (dst := (some 117)) (v := (.pointer (some ⟨(n + 2), 0, some 1⟩))) rfl rfl rfl noStore (none_ok _ _) rfl ?_
                      refine PQ.pure (dst := (some 118)) (v := (.string (v.extract 0 (min v.size 30)))) rfl rfl rfl (app [((n + 2), some ⟨[[(.int .i64 typ), (.string (v.extract 0 (min v.size 30)))]], 2, 65, true⟩)] noStore) (seen_one (V := []) (D := [((n + 2), some ⟨[[(.int .i64 typ), (.string (v.extract 0 (min v.size 30)))]], 2, 65, true⟩), ((n + 2), some ⟨[[(.int .i64 0), (.string ByteArray.empty)]], 2, 65, true⟩), ((n + 1), some ⟨[[(W a), (W b)]], 2, 69, true⟩), (n, some ⟨[[(.int .i64 typ), (.string v)]], 2, 65, true⟩)]) (by kernel_rfl) get_here) (r_load1 rfl rfl rfl rfl rfl get_here rfl rfl) ?_
                      refine PQ.pure (dst := (some 119)) (v := (.bool (decide ((((bstr (be4 (w32 (v.extract 0 (min v.size 30)) 0))) ++ (bstr (be4 (w32 (v.extract 0 (min v.size 30)) 4)))) ++ (bstr (be4 (w32 (v.extract 0 (min v.size 30)) 8)))) = (v.extract 0 (min v.size 30)))))) rfl rfl rfl noStore (none_ok _ _) (r_eqlS rfl rfl rfl) ?_
                      refine PQ.pure (dst := (some 120)) (v := (.bool (decide ((((bstr (be4 (w32 (v.extract 0 (min v.size 30)) 0))) ++ (bstr (be4 (w32 (v.extract 0 (min v.size 30)) 4)))) ++ (bstr (be4 (w32 (v.extract 0 (min v.size 30)) 8)))) = (v.extract 0 (min v.size 30)))))) rfl rfl rfl noStore (none_ok _ _) rfl ?_
                      refine PQ.pure (dst := (some 121)) (v := (.bool (decide ((((bstr (be4 (w32 (v.extract 0 (min v.size 30)) 0))) ++ (bstr (be4 (w32 (v.extract 0 (min v.size 30)) 4)))) ++ (bstr (be4 (w32 (v.extract 0 (min v.size 30)) 8)))) = (v.extract 0 (min v.size 30)))))) rfl rfl rfl noStore (none_ok _ _) rfl ?_
                      refine PQ.pure (dst := (some 6)) (v := (.bool (decide ((((bstr (be4 (w32 (v.extract 0 (min v.size 30)) 0))) ++ (bstr (be4 (w32 (v.extract 0 (min v.size 30)) 4)))) ++ (bstr (be4 (w32 (v.extract 0 (min v.size 30)) 8)))) = (v.extract 0 (min v.size 30)))))) rfl rfl rfl noStore (none_ok _ _) rfl ?_
                      refine PQ.done (d := []) (by kernel_rfl) ?_
                      intro _
                      refine RA.ret env_ok ?_
                      refine ⟨.inr rfl, [(.bool (decide ((((bstr (be4 (w32 (v.extract 0 (min v.size 30)) 0))) ++ (bstr (be4 (w32 (v.extract 0 (min v.size 30)) 4)))) ++ (bstr (be4 (w32 (v.extract 0 (min v.size 30)) 8)))) = (v.extract 0 (min v.size 30)))))], (resL_cons rfl resL_nil), (cat_done (cat_at (by unfold tagsOk at *; omega))), (by intro i hi; simp only [keys, List.cons_append, List.nil_append, List.map_cons, List.map_nil, List.mem_cons, List.not_mem_nil, or_false, false_or] at hi; omega)⟩
          ·
            refine OA.callP (dst := (some 75)) (all := [(.agg ⟨[(.int .i64 typ), (.string (v.extract 0 (min v.size 30)))]⟩)]) (v := (.tuple ⟨[(W 0#32), (W 0#32), (W 0#32), (.bool false)]⟩)) (hd.of (by omega) (by intro i hi; simp only [keys, List.cons_append, List.nil_append, List.map_cons, List.map_nil, List.mem_cons, List.not_mem_nil, or_false, false_or] at hi; omega)) rfl rfl rfl rfl rfl rfl rfl rfl (sAs0 typ (v.extract 0 (min v.size 30)) (by rw [size_cut _ _ _ (by omega)]; omega) hc15) ?_
            intro n31 hn31
            refine OA.pure (dst := (some 73)) (v := (.tuple ⟨[(W 0#32), (W 0#32), (W 0#32), (.bool false)]⟩)) rfl rfl rfl rfl ?_
            refine OA.pure (dst := (some 76)) (v := (W 0#32)) rfl rfl rfl rfl ?_
            refine OA.pure (dst := (some 77)) (v := (W 0#32)) rfl rfl rfl rfl ?_
            refine OA.pure (dst := (some 78)) (v := (W 0#32)) rfl rfl rfl rfl ?_
            refine OA.pure (dst := (some 79)) (v := (.bool false)) rfl rfl rfl rfl ?_
            refine OA.pure (dst := (some 12)) (v := (W 0#32)) rfl rfl rfl rfl ?_
            refine OA.pure (dst := (some 13)) (v := (W 0#32)) rfl rfl rfl rfl ?_
            refine OA.pure (dst := (some 14)) (v := (W 0#32)) rfl rfl rfl rfl ?_
            refine OA.pure (dst := (some 15)) (v := (.bool false)) rfl rfl rfl rfl ?_
            refine OA.nil ?_
            intro _
            refine RA.seq hd ?_
            refine RA.seq hd ?_
            refine RA.region env_ok ?_
            refine OA.pure (dst := (some 80)) (v := (.pointer (some ⟨(n + 2), 0, some 0⟩))) rfl rfl rfl rfl ?_
            refine OA.pure (dst := (some 81)) (v := (.int .i64 typ)) rfl rfl rfl (r_load1 rfl rfl rfl rfl rfl get_here rfl rfl) ?_
            by_cases hc20 : typ ≠ 49160
            ·
              refine OA.pure (dst := (some 82)) (v := (.bool true)) rfl rfl rfl (Eq.trans (r_bin rfl rfl rfl (b_neq rfl)) (by first | (rw [decide_eq_true hc20]; done) | (rw [decide_eq_true hc20]; rfl))) ?_
              refine OA.pure (dst := (some 83)) (v := (.bool true)) rfl rfl rfl rfl ?_
              refine OA.off (dst := (some 84)) rfl rfl rfl ?_
              refine OA.off (dst := (some 85)) rfl rfl rfl ?_
              refine OA.off (dst := (some 86)) rfl rfl rfl ?_
              refine OA.off (dst := (some 87)) rfl rfl rfl ?_
              refine OA.pure (dst := (some 88)) (v := (.bool true)) rfl rfl rfl rfl ?_
              refine OA.nil ?_
              intro _
              refine RA.cond (t := true) rfl (fun hc => ?_) (fun hc => ?_)
              ·
                refine RA.seq hd ?_
                refine RA.region env_ok ?_
                refine OA.pure (dst := (some 89)) (v := (.bool false)) rfl rfl rfl rfl ?_
                refine OA.pure (dst := (some 90)) (v := (.bool true)) rfl rfl rfl rfl ?_
                refine OA.pure (dst := (some 6)) (v := (.bool true)) rfl rfl rfl rfl ?_
                refine OA.nil ?_
                intro _
                refine RA.ret env_ok ?_
                refine ⟨.inr rfl, [(.bool true)], (resL_cons rfl resL_nil), rfl, (by intro i hi; simp only [keys, List.cons_append, List.nil_append, List.map_cons, List.map_nil, List.mem_cons, List.not_mem_nil, or_false, false_or] at hi; omega)⟩
              · cases hc
            ·
              refine OA.pure (dst := (some 82)) (v := (.bool false)) rfl rfl rfl (Eq.trans (r_bin rfl rfl rfl (b_neq rfl)) (by first | (rw [decide_eq_false hc20]; done) | (rw [decide_eq_false hc20]; rfl))) ?_
              refine OA.pure (dst := (some 83)) (v := (.bool false)) rfl rfl rfl rfl ?_
              refine OA.pure (dst := (some 84)) (v := (.pointer (some ⟨(n + 2), 0, some 1⟩))) rfl rfl rfl rfl ?_
              refine OA.pure (dst := (some 85)) (v := (.string (v.extract 0 (min v.size 30)))) rfl rfl rfl (r_load1 rfl rfl rfl rfl rfl get_here rfl rfl) ?_
              refine OA.pure (dst := (some 86)) (v := (.int .i64 (((v.extract 0 (min v.size 30)).size : Nat) : Int))) rfl rfl rfl rfl ?_
              by_cases hc21 : (((v.extract 0 (min v.size 30)).size : Nat) : Int) ≠ 12
              ·
                refine OA.pure (dst := (some 87)) (v := (.bool true)) rfl rfl rfl (Eq.trans (r_bin rfl rfl rfl (b_neq rfl)) (by first | (rw [decide_eq_true hc21]; done) | (rw [decide_eq_true hc21]; rfl))) ?_
                refine OA.pure (dst := (some 88)) (v := (.bool true)) rfl rfl rfl rfl ?_
                refine OA.nil ?_
                intro _
                refine RA.cond (t := true) rfl (fun hc => ?_) (fun hc => ?_)
                ·
                  refine RA.seq hd ?_
                  refine RA.region env_ok ?_
                  refine OA.pure (dst := (some 89)) (v := (.bool false)) rfl rfl rfl rfl ?_
                  refine OA.pure (dst := (some 90)) (v := (.bool true)) rfl rfl rfl rfl ?_
                  refine OA.pure (dst := (some 6)) (v := (.bool true)) rfl rfl rfl rfl ?_
                  refine OA.nil ?_
                  intro _
                  refine RA.ret env_ok ?_
                  refine ⟨.inr rfl, [(.bool true)], (resL_cons rfl resL_nil), rfl, (by intro i hi; simp only [keys, List.cons_append, List.nil_append, List.map_cons, List.map_nil, List.mem_cons, List.not_mem_nil, or_false, false_or] at hi; omega)⟩
                · cases hc
              ·
                refine OA.pure (dst := (some 87)) (v := (.bool false)) rfl rfl rfl (Eq.trans (r_bin rfl rfl rfl (b_neq rfl)) (by first | (rw [decide_eq_false hc21]; done) | (rw [decide_eq_false hc21]; rfl))) ?_
                refine OA.pure (dst := (some 88)) (v := (.bool false)) rfl rfl rfl rfl ?_
                refine OA.nil ?_
                intro _
                refine RA.cond (t := false) rfl (fun hc => ?_) (fun hc => ?_)
                · cases hc
                ·
                  refine RA.skip env_ok ?_
                  intro _
                  refine RA.seq hd ?_
                  refine RA.region env_ok ?_
                  refine OA.pure (dst := (some 91)) (v := (.pointer (some ⟨(n + 2), 0, some 1⟩))) rfl rfl rfl rfl ?_
                  refine OA.pure (dst := (some 92)) (v := (.string (v.extract 0 (min v.size 30)))) rfl rfl rfl (r_load1 rfl rfl rfl rfl rfl get_here rfl rfl) ?_
                  refine OA.pure (dst := (some 93)) (v := (.string ((v.extract 0 (min v.size 30)).extract 4 8))) rfl rfl rfl (r_cut (a := 4) (b := 8) rfl rfl (fun _ => rfl) (fun _ => rfl) rfl rfl rfl rfl (by omega) (by omega) rfl) ?_
                  by_cases hc22 : ((v.extract 0 (min v.size 30)).extract 4 8) = (ByteArray.mk #[0, 0, 0, 0])
                  ·
                    have qhc22 : (w32 (v.extract 0 (min v.size 30)) 4).toNat = 0 := (hz4 (by omega)).1 hc22
                    refine OA.pure (dst := (some 94)) (v := (.bool true)) rfl rfl rfl (Eq.trans (r_eqlS rfl rfl rfl) (by first | (rw [decide_eq_true hc22]; done) | (rw [decide_eq_true hc22]; rfl))) ?_
                    refine OA.pure (dst := (some 95)) (v := (.bool true)) rfl rfl rfl rfl ?_
                    refine OA.off (dst := (some 96)) rfl rfl rfl ?_
                    refine OA.off (dst := (some 97)) rfl rfl rfl ?_
                    refine OA.off (dst := (some 98)) rfl rfl rfl ?_
                    refine OA.off (dst := (some 99)) rfl rfl rfl ?_
                    refine OA.pure (dst := (some 100)) (v := (.bool true)) rfl rfl rfl rfl ?_
                    refine OA.pure (dst := (some 16)) (v := (.bool true)) rfl rfl rfl rfl ?_
                    refine OA.nil ?_
                    intro _
                    refine RA.rebase [(0, (.agg ⟨[(.int .i64 typ), (.string v)]⟩)), (1, (W id)), (2, (.agg ⟨[(W a), (W b)]⟩)), (3, (.pointer (some ⟨n, 0, some 0⟩))), (5, (.pointer (some ⟨(n + 1), 0, some 0⟩))), (6, (.bool false)), (7, (.pointer (some ⟨(n + 2), 0, some 0⟩))), (8, (W 0#32)), (9, (W 0#32)), (10, (W 0#32)), (11, (.bool false)), (12, (W 0#32)), (13, (W 0#32)), (14, (W 0#32)), (15, (.bool false)), (16, (.bool true)), (72, (.bool false)), (88, (.bool false))] ⟨rfl, rfl, rfl, rfl, rfl, rfl, rfl, rfl, rfl, rfl, rfl, rfl, rfl, rfl, rfl, rfl, rfl, rfl, trivial⟩ (fun τr32 => ?_)
                    refine RA.seq hd ?_
                    refine RA.par (md := [some [], some [], some [], some [], some [], some [], some [], some [], some [], some [], some [], some [], some [], some [], some [], some [], some [], some [(n + 2)], some [], some [], some [], some []]) env_ok (hd.of (by omega) (by intro i hi; simp only [keys, List.cons_append, List.nil_append, List.map_cons, List.map_nil, List.mem_cons, List.not_mem_nil, or_false, false_or] at hi; omega)) (by kernel_rfl) ?_
                    refine PQ.pure (dst := (some 101)) (v := (.bool false)) rfl rfl rfl noStore (none_ok _ _) rfl ?_
                    refine PQ.pure (dst := (some 102)) (v := (.bool true)) rfl rfl rfl noStore (none_ok _ _) rfl ?_
                    refine PQ.pure (dst := (some 103)) (v := (.bool false)) rfl rfl rfl noStore (none_ok _ _) rfl ?_
                    refine PQ.pure (dst := (some 104)) (v := (.bool true)) rfl rfl rfl noStore (none_ok _ _) rfl ?_
                    refine PQ.pure (dst := (some 105)) (v := (.bool true)) rfl rfl rfl noStore (none_ok _ _) rfl ?_
                    refine PQ.pure (dst := (some 106)) (v := (.bool false)) rfl rfl rfl noStore (none_ok _ _) rfl ?_
                    refine PQ.pure (dst := (some 107)) (v := (.bool true)) rfl rfl rfl noStore (none_ok _ _) rfl ?_
                    refine PQ.pure (dst := (some 108)) (v := (.bool true)) rfl rfl rfl noStore (none_ok _ _) rfl ?_
                    refine PQ.off (dst := (some 109)) rfl rfl rfl ?_
                    refine PQ.off (dst := (some 110)) rfl rfl rfl ?_
                    refine PQ.off (dst := (some 111)) rfl rfl rfl ?_
                    refine PQ.off (dst := (some 112)) rfl rfl rfl ?_
                    refine PQ.off (dst := (some 113)) rfl rfl rfl ?_
                    refine PQ.off (dst := (some 114)) rfl rfl rfl ?_
                    refine PQ.off (dst := (some 115)) rfl rfl rfl ?_
                    refine PQ.off (dst := (some 116)) rfl rfl rfl ?_
                    refine PQ.off (dst := (some 117)) rfl rfl rfl ?_
                    refine PQ.off (dst := (some 118)) rfl rfl rfl ?_
                    refine PQ.off (dst := (some 119)) rfl rfl rfl ?_
                    refine PQ.pure (dst := (some 120)) (v := (.bool true)) rfl rfl rfl noStore (none_ok _ _) rfl ?_
                    refine PQ.pure (dst := (some 121)) (v := (.bool true)) rfl rfl rfl noStore (none_ok _ _) rfl ?_
                    refine PQ.pure (dst := (some 6)) (v := (.bool true)) rfl rfl rfl noStore (none_ok _ _) rfl ?_
                    refine PQ.done (d := []) (by kernel_rfl) ?_
                    intro _
                    refine RA.ret env_ok ?_
                    refine ⟨.inr rfl, [(.bool true)], (resL_cons rfl resL_nil), rfl, (by intro i hi; simp only [keys, List.cons_append, List.nil_append, List.map_cons, List.map_nil, List.mem_cons, List.not_mem_nil, or_false, false_or] at hi; omega)⟩
                  ·
                    have qhc22 : ¬ (w32 (v.extract 0 (min v.size 30)) 4).toNat = 0 := fun q => hc22 ((hz4 (by omega)).2 q)
                    refine OA.pure (dst := (some 94)) (v := (.bool false)) rfl rfl rfl (Eq.trans (r_eqlS rfl rfl rfl) (by first | (rw [decide_eq_false hc22]; done) | (rw [decide_eq_false hc22]; rfl))) ?_
                    refine OA.pure (dst := (some 95)) (v := (.bool false)) rfl rfl rfl rfl ?_
                    refine OA.pure (dst := (some 96)) (v := (.pointer (some ⟨(n + 2), 0, some 1⟩))) rfl rfl rfl rfl ?_
                    refine OA.pure (dst := (some 97)) (v := (.string (v.extract 0 (min v.size 30)))) rfl rfl rfl (r_load1 rfl rfl rfl rfl rfl get_here rfl rfl) ?_
                    refine OA.pure (dst := (some 98)) (v := (.string ((v.extract 0 (min v.size 30)).extract 8 (v.extract 0 (min v.size 30)).size))) rfl rfl rfl (r_cut (a := 8) (b := (v.extract 0 (min v.size 30)).size) rfl rfl (fun _ => rfl) (fun _ => rfl) rfl rfl rfl rfl (by omega) (by omega) rfl) ?_
                    by_cases hc23 : ((v.extract 0 (min v.size 30)).extract 8 (v.extract 0 (min v.size 30)).size) = (ByteArray.mk #[0, 0, 0, 0])
                    ·
                      have qhc23 : (w32 (v.extract 0 (min v.size 30)) 8).toNat = 0 := (hz8 (by omega)).1 hc23
                      refine OA.pure (dst := (some 99)) (v := (.bool true)) rfl rfl rfl (Eq.trans (r_eqlS rfl rfl rfl) (by first | (rw [decide_eq_true hc23]; done) | (rw [decide_eq_true hc23]; rfl))) ?_
                      refine OA.pure (dst := (some 100)) (v := (.bool true)) rfl rfl rfl rfl ?_
                      refine OA.pure (dst := (some 16)) (v := (.bool true)) rfl rfl rfl rfl ?_
                      refine OA.nil ?_
                      intro _
                      refine RA.rebase [(0, (.agg ⟨[(.int .i64 typ), (.string v)]⟩)), (1, (W id)), (2, (.agg ⟨[(W a), (W b)]⟩)), (3, (.pointer (some ⟨n, 0, some 0⟩))), (5, (.pointer (some ⟨(n + 1), 0, some 0⟩))), (6, (.bool false)), (7, (.pointer (some ⟨(n + 2), 0, some 0⟩))), (8, (W 0#32)), (9, (W 0#32)), (10, (W 0#32)), (11, (.bool false)), (12, (W 0#32)), (13, (W 0#32)), (14, (W 0#32)), (15, (.bool false)), (16, (.bool true)), (72, (.bool false)), (88, (.bool false))] ⟨rfl, rfl, rfl, rfl, rfl, rfl, rfl, rfl, rfl, rfl, rfl, rfl, rfl, rfl, rfl, rfl, rfl, rfl, trivial⟩ (fun τr33 => ?_)
                      refine RA.seq hd ?_
                      refine RA.par (md := [some [], some [], some [], some [], some [], some [], some [], some [], some [], some [], some [], some [], some [], some [], some [], some [], some [], some [(n + 2)], some [], some [], some [], some []]) env_ok (hd.of (by omega) (by intro i hi; simp only [keys, List.cons_append, List.nil_append, List.map_cons, List.map_nil, List.mem_cons, List.not_mem_nil, or_false, false_or] at hi; omega)) (by kernel_rfl) ?_
                      refine PQ.pure (dst := (some 101)) (v := (.bool false)) rfl rfl rfl noStore (none_ok _ _) rfl ?_
                      refine PQ.pure (dst := (some 102)) (v := (.bool true)) rfl rfl rfl noStore (none_ok _ _) rfl ?_
                      refine PQ.pure (dst := (some 103)) (v := (.bool false)) rfl rfl rfl noStore (none_ok _ _) rfl ?_
                      refine PQ.pure (dst := (some 104)) (v := (.bool true)) rfl rfl rfl noStore (none_ok _ _) rfl ?_
                      refine PQ.pure (dst := (some 105)) (v := (.bool true)) rfl rfl rfl noStore (none_ok _ _) rfl ?_
                      refine PQ.pure (dst := (some 106)) (v := (.bool false)) rfl rfl rfl noStore (none_ok _ _) rfl ?_
                      refine PQ.pure (dst := (some 107)) (v := (.bool true)) rfl rfl rfl noStore (none_ok _ _) rfl ?_
                      refine PQ.pure (dst := (some 108)) (v := (.bool true)) rfl rfl rfl noStore (none_ok _ _) rfl ?_
                      refine PQ.off (dst := (some 109)) rfl rfl rfl ?_
                      refine PQ.off (dst := (some 110)) rfl rfl rfl ?_
                      refine PQ.off (dst := (some 111)) rfl rfl rfl ?_
                      refine PQ.off (dst := (some 112)) rfl rfl rfl ?_
                      refine PQ.off (dst := (some 113)) rfl rfl rfl ?_
                      refine PQ.off (dst := (some 114)) rfl rfl rfl ?_
                      refine PQ.off (dst := (some 115)) rfl rfl rfl ?_
                      refine PQ.off (dst := (some 116)) rfl rfl rfl ?_
                      refine PQ.off (dst := (some 117)) rfl rfl rfl ?_
                      refine PQ.off (dst := (some 118)) rfl rfl rfl ?_
                      refine PQ.off (dst := (some 119)) rfl rfl rfl ?_
                      refine PQ.pure (dst := (some 120)) (v := (.bool true)) rfl rfl rfl noStore (none_ok _ _) rfl ?_
                      refine PQ.pure (dst := (some 121)) (v := (.bool true)) rfl rfl rfl noStore (none_ok _ _) rfl ?_
                      refine PQ.pure (dst := (some 6)) (v := (.bool true)) rfl rfl rfl noStore (none_ok _ _) rfl ?_
                      refine PQ.done (d := []) (by kernel_rfl) ?_
                      intro _
                      refine RA.ret env_ok ?_
                      refine ⟨.inr rfl, [(.bool true)], (resL_cons rfl resL_nil), rfl, (by intro i hi; simp only [keys, List.cons_append, List.nil_append, List.map_cons, List.map_nil, List.mem_cons, List.not_mem_nil, or_false, false_or] at hi; omega)⟩
                    ·
                      have qhc23 : ¬ (w32 (v.extract 0 (min v.size 30)) 8).toNat = 0 := fun q => hc23 ((hz8 (by omega)).2 q)
                      refine OA.pure (dst := (some 99)) (v := (.bool false)) rfl rfl rfl (Eq.trans (r_eqlS rfl rfl rfl) (by first | (rw [decide_eq_false hc23]; done) | (rw [decide_eq_false hc23]; rfl))) ?_
                      refine OA.pure (dst := (some 100)) (v := (.bool false)) rfl rfl rfl rfl ?_
                      refine OA.pure (dst := (some 16)) (v := (.bool false)) rfl rfl rfl rfl ?_
                      refine OA.nil ?_
                      intro _
                      refine RA.rebase [(0, (.agg ⟨[(.int .i64 typ), (.string v)]⟩)), (1, (W id)), (2, (.agg ⟨[(W a), (W b)]⟩)), (3, (.pointer (some ⟨n, 0, some 0⟩))), (5, (.pointer (some ⟨(n + 1), 0, some 0⟩))), (6, (.bool false)), (7, (.pointer (some ⟨(n + 2), 0, some 0⟩))), (8, (W 0#32)), (9, (W 0#32)), (10, (W 0#32)), (11, (.bool false)), (12, (W 0#32)), (13, (W 0#32)), (14, (W 0#32)), (15, (.bool false)), (16, (.bool false)), (72, (.bool false)), (88, (.bool false))] ⟨rfl, rfl, rfl, rfl, rfl, rfl, rfl, rfl, rfl, rfl, rfl, rfl, rfl, rfl, rfl, rfl, rfl, rfl, trivial⟩ (fun τr34 => ?_)
                      refine RA.seq hd ?_
                      refine RA.par (md := [some [], some [], some [], some [], some [], some [], some [], some [], some [], some [], some [], some [], some [], some [], some [], some [], some [], some [(n + 2)], some [], some [], some [], some []]) env_ok (hd.of (by omega) (by intro i hi; simp only [keys, List.cons_append, List.nil_append, List.map_cons, List.map_nil, List.mem_cons, List.not_mem_nil, or_false, false_or] at hi; omega)) (by kernel_rfl) ?_
                      refine PQ.pure (dst := (some 101)) (v := (.bool false)) rfl rfl rfl noStore (none_ok _ _) rfl ?_
                      refine PQ.pure (dst := (some 102)) (v := (.bool false)) rfl rfl rfl noStore (none_ok _ _) rfl ?_
                      refine PQ.pure (dst := (some 103)) (v := (.bool true)) rfl rfl rfl noStore (none_ok _ _) rfl ?_
                      refine PQ.pure (dst := (some 104)) (v := (.bool false)) rfl rfl rfl noStore (none_ok _ _) rfl ?_
                      refine PQ.pure (dst := (some 105)) (v := (.bool false)) rfl rfl rfl noStore (none_ok _ _) rfl ?_
                      refine PQ.off (dst := (some 106)) rfl rfl rfl ?_
                      refine PQ.off (dst := (some 107)) rfl rfl rfl ?_
                      refine PQ.off (dst := (some 108)) rfl rfl rfl ?_
                      refine PQ.off (dst := (some 109)) rfl rfl rfl ?_
                      refine PQ.off (dst := (some 110)) rfl rfl rfl ?_
                      refine PQ.off (dst := (some 111)) rfl rfl rfl ?_
                      refine PQ.off (dst := (some 112)) rfl rfl rfl ?_
                      refine PQ.off (dst := (some 113)) rfl rfl rfl ?_
                      refine PQ.off (dst := (some 114)) rfl rfl rfl ?_
                      refine PQ.off (dst := (some 115)) rfl rfl rfl ?_
                      refine PQ.off (dst := (some 116)) rfl rfl rfl ?_
                      refine PQ.off (dst := (some 117)) rfl rfl rfl ?_
                      refine PQ.off (dst := (some 118)) rfl rfl rfl ?_
                      refine PQ.off (dst := (some 119)) rfl rfl rfl ?_
                      refine PQ.off (dst := (some 120)) rfl rfl rfl ?_
                      refine PQ.pure (dst := (some 121)) (v := (.bool false)) rfl rfl rfl noStore (none_ok _ _) rfl ?_
                      refine PQ.pure (dst := (some 6)) (v := (.bool false)) rfl rfl rfl noStore (none_ok _ _) rfl ?_
                      refine PQ.done (d := []) (by kernel_rfl) ?_
                      intro _
                      refine RA.ret env_ok ?_
                      refine ⟨.inr rfl, [(.bool false)], (resL_cons rfl resL_nil), (by exfalso; first | omega | (unfold tagsOk at *; omega)), (by intro i hi; simp only [keys, List.cons_append, List.nil_append, List.map_cons, List.map_nil, List.mem_cons, List.not_mem_nil, or_false, false_or] at hi; omega)⟩
    ·
      refine OA.pure (dst := (some 45)) (v := (.bool false)) rfl rfl rfl (Eq.trans (r_bin rfl rfl rfl (b_neq rfl)) (by first | (rw [decide_eq_false hc13]; done) | (rw [decide_eq_false hc13]; rfl))) ?_
      refine OA.pure (dst := (some 46)) (v := (.bool false)) rfl rfl rfl rfl ?_
      refine OA.off (dst := (some 47)) rfl rfl rfl ?_
      refine OA.off (dst := (some 48)) rfl rfl rfl ?_
      refine OA.off (dst := (some 49)) rfl rfl rfl ?_
      refine OA.pure (dst := (some 50)) (v := (.bool false)) rfl rfl rfl rfl ?_
      refine OA.pure (dst := (some 51)) (v := (.bool false)) rfl rfl rfl rfl ?_
      refine OA.pure (dst := (some 52)) (v := (.bool false)) rfl rfl rfl rfl ?_
      refine OA.pure (dst := (some 53)) (v := (.bool false)) rfl rfl rfl rfl ?_
      refine OA.pure (dst := (some 54)) (v := (.bool false)) rfl rfl rfl rfl ?_
      refine OA.pure (dst := (some 55)) (v := (.bool false)) rfl rfl rfl rfl ?_
      refine OA.off (dst := (some 56)) rfl rfl rfl ?_
      refine OA.off (dst := (some 57)) rfl rfl rfl ?_
      refine OA.off (dst := (some 58)) rfl rfl rfl ?_
      refine OA.off (dst := (some 59)) rfl rfl rfl ?_
      refine OA.off (dst := (some 60)) rfl rfl rfl ?_
      refine OA.off (dst := (some 61)) rfl rfl rfl ?_
      refine OA.off (dst := (some 62)) rfl rfl rfl ?_
      refine OA.off (dst := (some 63)) rfl rfl rfl ?_
      refine OA.off (dst := (some 64)) rfl rfl rfl ?_
      refine OA.off (dst := (some 65)) rfl rfl rfl ?_
      refine OA.off (dst := (some 66)) rfl rfl rfl ?_
      refine OA.off (dst := (some 67)) rfl rfl rfl ?_
      refine OA.off (dst := (some 68)) rfl rfl rfl ?_
      refine OA.off (dst := (some 69)) rfl rfl rfl ?_
      refine OA.off (dst := (some 70)) rfl rfl rfl ?_
      refine OA.pure (dst := (some 71)) (v := (.bool false)) rfl rfl rfl rfl ?_
      refine OA.pure (dst := (some 72)) (v := (.bool false)) rfl rfl rfl rfl ?_
      refine OA.nil ?_
      intro _
      refine RA.rebase [(0, (.agg ⟨[(.int .i64 typ), (.string v)]⟩)), (1, (W id)), (2, (.agg ⟨[(W a), (W b)]⟩)), (3, (.pointer (some ⟨n, 0, some 0⟩))), (5, (.pointer (some ⟨(n + 1), 0, some 0⟩))), (6, (.bool false)), (7, (.pointer (some ⟨(n + 2), 0, some 0⟩))), (8, (W 0#32)), (9, (W 0#32)), (10, (W 0#32)), (11, (.bool false)), (72, (.bool false))] ⟨rfl, rfl, rfl, rfl, rfl, rfl, rfl, rfl, rfl, rfl, rfl, rfl, trivial⟩ (fun τr35 => ?_)
      refine RA.cond (t := false) rfl (fun hc => ?_) (fun hc => ?_)
      · cases hc
      ·
        refine RA.skip env_ok ?_
        intro _
        refine RA.seq hd ?_
        refine RA.region env_ok ?_
        refine OA.pure (dst := (some 74)) (v := (.agg ⟨[(.int .i64 typ), (.string (v.extract 0 (min v.size 30)))]⟩)) rfl rfl rfl (r_loadA rfl rfl rfl rfl get_here rfl rfl rfl) ?_
        by_cases hc24 : tagsOk typ (v.extract 0 (min v.size 30))
        ·
          refine OA.callP (dst := (some 75)) (all := [(.agg ⟨[(.int .i64 typ), (.string (v.extract 0 (min v.size 30)))]⟩)]) (v := (.tuple ⟨[(W (w32 (v.extract 0 (min v.size 30)) 0)), (W (w32 (v.extract 0 (min v.size 30)) 4)), (W (w32 (v.extract 0 (min v.size 30)) 8)), (.bool true)]⟩)) (hd.of (by omega) (by intro i hi; simp only [keys, List.cons_append, List.nil_append, List.map_cons, List.map_nil, List.mem_cons, List.not_mem_nil, or_false, false_or] at hi; omega)) rfl rfl rfl rfl rfl rfl rfl rfl (sAs1 typ (v.extract 0 (min v.size 30)) (by rw [size_cut _ _ _ (by omega)]; omega) hc24) ?_
          intro n36 hn36
          refine OA.pure (dst := (some 73)) (v := (.tuple ⟨[(W (w32 (v.extract 0 (min v.size 30)) 0)), (W (w32 (v.extract 0 (min v.size 30)) 4)), (W (w32 (v.extract 0 (min v.size 30)) 8)), (.bool true)]⟩)) rfl rfl rfl rfl ?_
          refine OA.pure (dst := (some 76)) (v := (W (w32 (v.extract 0 (min v.size 30)) 0))) rfl rfl rfl rfl ?_
          refine OA.pure (dst := (some 77)) (v := (W (w32 (v.extract 0 (min v.size 30)) 4))) rfl rfl rfl rfl ?_
          refine OA.pure (dst := (some 78)) (v := (W (w32 (v.extract 0 (min v.size 30)) 8))) rfl rfl rfl rfl ?_
          refine OA.pure (dst := (some 79)) (v := (.bool true)) rfl rfl rfl rfl ?_
          refine OA.pure (dst := (some 12)) (v := (W (w32 (v.extract 0 (min v.size 30)) 0))) rfl rfl rfl rfl ?_
          refine OA.pure (dst := (some 13)) (v := (W (w32 (v.extract 0 (min v.size 30)) 4))) rfl rfl rfl rfl ?_
          refine OA.pure (dst := (some 14)) (v := (W (w32 (v.extract 0 (min v.size 30)) 8))) rfl rfl rfl rfl ?_
          refine OA.pure (dst := (some 15)) (v := (.bool true)) rfl rfl rfl rfl ?_
          refine OA.nil ?_
          intro _
          refine RA.seq hd ?_
          refine RA.seq hd ?_
          refine RA.region env_ok ?_
          refine OA.pure (dst := (some 80)) (v := (.pointer (some ⟨(n + 2), 0, some 0⟩))) rfl rfl rfl rfl ?_
          refine OA.pure (dst := (some 81)) (v := (.int .i64 typ)) rfl rfl rfl (r_load1 rfl rfl rfl rfl rfl get_here rfl rfl) ?_
          by_cases hc25 : typ ≠ 49160
          ·
            refine OA.pure (dst := (some 82)) (v := (.bool true)) rfl rfl rfl (Eq.trans (r_bin rfl rfl rfl (b_neq rfl)) (by first | (rw [decide_eq_true hc25]; done) | (rw [decide_eq_true hc25]; rfl))) ?_
            refine OA.pure (dst := (some 83)) (v := (.bool true)) rfl rfl rfl rfl ?_
            refine OA.off (dst := (some 84)) rfl rfl rfl ?_
            refine OA.off (dst := (some 85)) rfl rfl rfl ?_
            refine OA.off (dst := (some 86)) rfl rfl rfl ?_
            refine OA.off (dst := (some 87)) rfl rfl rfl ?_
            refine OA.pure (dst := (some 88)) (v := (.bool true)) rfl rfl rfl rfl ?_
            refine OA.nil ?_
            intro _
            refine RA.cond (t := true) rfl (fun hc => ?_) (fun hc => ?_)
            ·
              refine RA.seq hd ?_
              refine RA.region env_ok ?_
              refine OA.pure (dst := (some 89)) (v := (.bool true)) rfl rfl rfl rfl ?_
              refine OA.pure (dst := (some 90)) (v := (.bool false)) rfl rfl rfl rfl ?_
              refine OA.pure (dst := (some 6)) (v := (.bool false)) rfl rfl rfl rfl ?_
              refine OA.nil ?_
              intro _
              refine RA.ret env_ok ?_
              refine ⟨.inr rfl, [(.bool false)], (resL_cons rfl resL_nil), (by exfalso; first | omega | (unfold tagsOk at *; omega)), (by intro i hi; simp only [keys, List.cons_append, List.nil_append, List.map_cons, List.map_nil, List.mem_cons, List.not_mem_nil, or_false, false_or] at hi; omega)⟩
            · cases hc
          ·
            refine OA.pure (dst := (some 82)) (v := (.bool false)) rfl rfl rfl (Eq.trans (r_bin rfl rfl rfl (b_neq rfl)) (by first | (rw [decide_eq_false hc25]; done) | (rw [decide_eq_false hc25]; rfl))) ?_
            refine OA.pure (dst := (some 83)) (v := (.bool false)) rfl rfl rfl rfl ?_
            refine OA.pure (dst := (some 84)) (v := (.pointer (some ⟨(n + 2), 0, some 1⟩))) rfl rfl rfl rfl ?_
            refine OA.pure (dst := (some 85)) (v := (.string (v.extract 0 (min v.size 30)))) rfl rfl rfl (r_load1 rfl rfl rfl rfl rfl get_here rfl rfl) ?_
            refine OA.pure (dst := (some 86)) (v := (.int .i64 (((v.extract 0 (min v.size 30)).size : Nat) : Int))) rfl rfl rfl rfl ?_
            by_cases hc26 : (((v.extract 0 (min v.size 30)).size : Nat) : Int) ≠ 12
            ·
              refine OA.pure (dst := (some 87)) (v := (.bool true)) rfl rfl rfl (Eq.trans (r_bin rfl rfl rfl (b_neq rfl)) (by first | (rw [decide_eq_true hc26]; done) | (rw [decide_eq_true hc26]; rfl))) ?_
              refine OA.pure (dst := (some 88)) (v := (.bool true)) rfl rfl rfl rfl ?_
              refine OA.nil ?_
              intro _
              refine RA.cond (t := true) rfl (fun hc => ?_) (fun hc => ?_)
              ·
                refine RA.seq hd ?_
                refine RA.region env_ok ?_
                refine OA.pure (dst := (some 89)) (v := (.bool true)) rfl rfl rfl rfl ?_
                refine OA.pure (dst := (some 90)) (v := (.bool false)) rfl rfl rfl rfl ?_
                refine OA.pure (dst := (some 6)) (v := (.bool false)) rfl rfl rfl rfl ?_
                refine OA.nil ?_
                intro _
                refine RA.ret env_ok ?_
                refine ⟨.inr rfl, [(.bool false)], (resL_cons rfl resL_nil), (by exfalso; first | omega | (unfold tagsOk at *; omega)), (by intro i hi; simp only [keys, List.cons_append, List.nil_append, List.map_cons, List.map_nil, List.mem_cons, List.not_mem_nil, or_false, false_or] at hi; omega)⟩
              · cases hc
            ·
              refine OA.pure (dst := (some 87)) (v := (.bool false)) rfl rfl rfl (Eq.trans (r_bin rfl rfl rfl (b_neq rfl)) (by first | (rw [decide_eq_false hc26]; done) | (rw [decide_eq_false hc26]; rfl))) ?_
              refine OA.pure (dst := (some 88)) (v := (.bool false)) rfl rfl rfl rfl ?_
              refine OA.nil ?_
              intro _
              refine RA.cond (t := false) rfl (fun hc => ?_) (fun hc => ?_)
              · cases hc
              ·
                refine RA.skip env_ok ?_
                intro _
                refine RA.seq hd ?_
                refine RA.region env_ok ?_
                refine OA.pure (dst := (some 91)) (v := (.pointer (some ⟨(n + 2), 0, some 1⟩))) rfl rfl rfl rfl ?_
                refine OA.pure (dst := (some 92)) (v := (.string (v.extract 0 (min v.size 30)))) rfl rfl rfl (r_load1 rfl rfl rfl rfl rfl get_here rfl rfl) ?_
                refine OA.pure (dst := (some 93)) (v := (.string ((v.extract 0 (min v.size 30)).extract 4 8))) rfl rfl rfl (r_cut (a := 4) (b := 8) rfl rfl (fun _ => rfl) (fun _ => rfl) rfl rfl rfl rfl (by omega) (by omega) rfl) ?_
                by_cases hc27 : ((v.extract 0 (min v.size 30)).extract 4 8) = (ByteArray.mk #[0, 0, 0, 0])
                ·
                  have qhc27 : (w32 (v.extract 0 (min v.size 30)) 4).toNat = 0 := (hz4 (by omega)).1 hc27
                  refine OA.pure (dst := (some 94)) (v := (.bool true)) rfl rfl rfl (Eq.trans (r_eqlS rfl rfl rfl) (by first | (rw [decide_eq_true hc27]; done) | (rw [decide_eq_true hc27]; rfl))) ?_
                  refine OA.pure (dst := (some 95)) (v := (.bool true)) rfl rfl rfl rfl ?_
                  refine OA.off (dst := (some 96)) rfl rfl rfl ?_
                  refine OA.off (dst := (some 97)) rfl rfl rfl ?_
                  refine OA.off (dst := (some 98)) rfl rfl rfl ?_
                  refine OA.off (dst := (some 99)) rfl rfl rfl ?_
                  refine OA.pure (dst := (some 100)) (v := (.bool true)) rfl rfl rfl rfl ?_
                  refine OA.pure (dst := (some 16)) (v := (.bool true)) rfl rfl rfl rfl ?_
                  refine OA.nil ?_
                  intro _
                  refine RA.rebase [(0, (.agg ⟨[(.int .i64 typ), (.string v)]⟩)), (1, (W id)), (2, (.agg ⟨[(W a), (W b)]⟩)), (3, (.pointer (some ⟨n, 0, some 0⟩))), (5, (.pointer (some ⟨(n + 1), 0, some 0⟩))), (6, (.bool false)), (7, (.pointer (some ⟨(n + 2), 0, some 0⟩))), (8, (W 0#32)), (9, (W 0#32)), (10, (W 0#32)), (11, (.bool false)), (12, (W (w32 (v.extract 0 (min v.size 30)) 0))), (13, (W (w32 (v.extract 0 (min v.size 30)) 4))), (14, (W (w32 (v.extract 0 (min v.size 30)) 8))), (15, (.bool true)), (16, (.bool true)), (72, (.bool false)), (88, (.bool false))] ⟨rfl, rfl, rfl, rfl, rfl, rfl, rfl, rfl, rfl, rfl, rfl, rfl, rfl, rfl, rfl, rfl, rfl, rfl, trivial⟩ (fun τr37 => ?_)
                  refine RA.seq hd ?_
                  refine RA.par (md := [some [], some [], some [], some [], some [], some [], some [], some [], some [], some [], some [], some [], some [], some [], some [], some [], some [], some [(n + 2)], some [], some [], some [], some []]) env_ok (hd.of (by omega) (by intro i hi; simp only [keys, List.cons_append, List.nil_append, List.map_cons, List.map_nil, List.mem_cons, List.not_mem_nil, or_false, false_or] at hi; omega)) (by kernel_rfl) ?_
                  refine PQ.pure (dst := (some 101)) (v := (.bool true)) rfl rfl rfl noStore (none_ok _ _) rfl ?_
                  refine PQ.pure (dst := (some 102)) (v := (.bool true)) rfl rfl rfl noStore (none_ok _ _) rfl ?_
                  refine PQ.pure (dst := (some 103)) (v := (.bool false)) rfl rfl rfl noStore (none_ok _ _) rfl ?_
                  refine PQ.pure (dst := (some 104)) (v := (.bool false)) rfl rfl rfl noStore (none_ok _ _) rfl ?_
                  refine PQ.pure (dst := (some 105)) (v := (.bool false)) rfl rfl rfl noStore (none_ok _ _) rfl ?_
                  refine PQ.off (dst := (some 106)) rfl rfl rfl ?_
                  refine PQ.off (dst := (some 107)) rfl rfl rfl ?_
                  refine PQ.off (dst := (some 108)) rfl rfl rfl ?_
                  refine PQ.off (dst := (some 109)) rfl rfl rfl ?_
                  refine PQ.off (dst := (some 110)) rfl rfl rfl ?_
                  refine PQ.off (dst := (some 111)) rfl rfl rfl ?_
                  refine PQ.off (dst := (some 112)) rfl rfl rfl ?_
                  refine PQ.off (dst := (some 113)) rfl rfl rfl ?_
                  refine PQ.off (dst := (some 114)) rfl rfl rfl ?_
                  refine PQ.off (dst := (some 115)) rfl rfl rfl ?_
                  refine PQ.off (dst := (some 116)) rfl rfl rfl ?_
                  refine PQ.off (dst := (some 117)) rfl rfl rfl ?_
                  refine PQ.off (dst := (some 118)) rfl rfl rfl ?_
                  refine PQ.off (dst := (some 119)) rfl rfl rfl ?_
                  refine PQ.off (dst := (some 120)) rfl rfl rfl ?_
                  refine PQ.pure (dst := (some 121)) (v := (.bool false)) rfl rfl rfl noStore (none_ok _ _) rfl ?_
                  refine PQ.pure (dst := (some 6)) (v := (.bool false)) rfl rfl rfl noStore (none_ok _ _) rfl ?_
                  refine PQ.done (d := []) (by kernel_rfl) ?_
                  intro _
                  refine RA.ret env_ok ?_
                  refine ⟨.inr rfl, [(.bool false)], (resL_cons rfl resL_nil), (by exfalso; first | omega | (unfold tagsOk at *; omega)), (by intro i hi; simp only [keys, List.cons_append, List.nil_append, List.map_cons, List.map_nil, List.mem_cons, List.not_mem_nil, or_false, false_or] at hi; omega)⟩
                ·
                  have qhc27 : ¬ (w32 (v.extract 0 (min v.size 30)) 4).toNat = 0 := fun q => hc27 ((hz4 (by omega)).2 q)
                  refine OA.pure (dst := (some 94)) (v := (.bool false)) rfl rfl rfl (Eq.trans (r_eqlS rfl rfl rfl) (by first | (rw [decide_eq_false hc27]; done) | (rw [decide_eq_false hc27]; rfl))) ?_
                  refine OA.pure (dst := (some 95)) (v := (.bool false)) rfl rfl rfl rfl ?_
                  refine OA.pure (dst := (some 96)) (v := (.pointer (some ⟨(n + 2), 0, some 1⟩))) rfl rfl rfl rfl ?_
                  refine OA.pure (dst := (some 97)) (v := (.string (v.extract 0 (min v.size 30)))) rfl rfl rfl (r_load1 rfl rfl rfl rfl rfl get_here rfl rfl) ?_
                  refine OA.pure (dst := (some 98)) (v := (.string ((v.extract 0 (min v.size 30)).extract 8 (v.extract 0 (min v.size 30)).size))) rfl rfl rfl (r_cut (a := 8) (b := (v.extract 0 (min v.size 30)).size) rfl rfl (fun _ => rfl) (fun _ => rfl) rfl rfl rfl rfl (by omega) (by omega) rfl) ?_
                  by_cases hc28 : ((v.extract 0 (min v.size 30)).extract 8 (v.extract 0 (min v.size 30)).size) = (ByteArray.mk #[0, 0, 0, 0])
                  ·
                    have qhc28 : (w32 (v.extract 0 (min v.size 30)) 8).toNat = 0 := (hz8 (by omega)).1 hc28
                    refine OA.pure (dst := (some 99)) (v := (.bool true)) rfl rfl rfl (Eq.trans (r_eqlS rfl rfl rfl) (by first | (rw [decide_eq_true hc28]; done) | (rw [decide_eq_true hc28]; rfl))) ?_
                    refine OA.pure (dst := (some 100)) (v := (.bool true)) rfl rfl rfl rfl ?_
                    refine OA.pure (dst := (some 16)) (v := (.bool true)) rfl rfl rfl rfl ?_
                    refine OA.nil ?_
                    intro _
                    refine RA.rebase [(0, (.agg ⟨[(.int .i64 typ), (.string v)]⟩)), (1, (W id)), (2, (.agg ⟨[(W a), (W b)]⟩)), (3, (.pointer (some ⟨n, 0, some 0⟩))), (5, (.pointer (some ⟨(n + 1), 0, some 0⟩))), (6, (.bool false)), (7, (.pointer (some ⟨(n + 2), 0, some 0⟩))), (8, (W 0#32)), (9, (W 0#32)), (10, (W 0#32)), (11, (.bool false)), (12, (W (w32 (v.extract 0 (min v.size 30)) 0))), (13, (W (w32 (v.extract 0 (min v.size 30)) 4))), (14, (W (w32 (v.extract 0 (min v.size 30)) 8))), (15, (.bool true)), (16, (.bool true)), (72, (.bool false)), (88, (.bool false))] ⟨rfl, rfl, rfl, rfl, rfl, rfl, rfl, rfl, rfl, rfl, rfl, rfl, rfl, rfl, rfl, rfl, rfl, rfl, trivial⟩ (fun τr38 => ?_)
                    refine RA.seq hd ?_
                    refine RA.par (md := [some [], some [], some [], some [], some [], some [], some [], some [], some [], some [], some [], some [], some [], some [], some [], some [], some [], some [(n + 2)], some [], some [], some [], some []]) env_ok (hd.of (by omega) (by intro i hi; simp only [keys, List.cons_append, List.nil_append, List.map_cons, List.map_nil, List.mem_cons, List.not_mem_nil, or_false, false_or] at hi; omega)) (by kernel_rfl) ?_
                    refine PQ.pure (dst := (some 101)) (v := (.bool true)) rfl rfl rfl noStore (none_ok _ _) rfl ?_
                    refine PQ.pure (dst := (some 102)) (v := (.bool true)) rfl rfl rfl noStore (none_ok _ _) rfl ?_
                    refine PQ.pure (dst := (some 103)) (v := (.bool false)) rfl rfl rfl noStore (none_ok _ _) rfl ?_
                    refine PQ.pure (dst := (some 104)) (v := (.bool false)) rfl rfl rfl noStore (none_ok _ _) rfl ?_
                    refine PQ.pure (dst := (some 105)) (v := (.bool false)) rfl rfl rfl noStore (none_ok _ _) rfl ?_
                    refine PQ.off (dst := (some 106)) rfl rfl rfl ?_
                    refine PQ.off (dst := (some 107)) rfl rfl rfl ?_
                    refine PQ.off (dst := (some 108)) rfl rfl rfl ?_
                    refine PQ.off (dst := (some 109)) rfl rfl rfl ?_
                    refine PQ.off (dst := (some 110)) rfl rfl rfl ?_
                    refine PQ.off (dst := (some 111)) rfl rfl rfl ?_
                    refine PQ.off (dst := (some 112)) rfl rfl rfl ?_
                    refine PQ.off (dst := (some 113)) rfl rfl rfl ?_
                    refine PQ.off (dst := (some 114)) rfl rfl rfl ?_
                    refine PQ.off (dst := (some 115)) rfl rfl rfl ?_
                    refine PQ.off (dst := (some 116)) rfl rfl rfl ?_
                    refine PQ.off (dst := (some 117)) rfl rfl rfl ?_
                    refine PQ.off (dst := (some 118)) rfl rfl rfl ?_
                    refine PQ.off (dst := (some 119)) rfl rfl rfl ?_
                    refine PQ.off (dst := (some 120)) rfl rfl rfl ?_
                    refine PQ.pure (dst := (some 121)) (v := (.bool false)) rfl rfl rfl noStore (none_ok _ _) rfl ?_
                    refine PQ.pure (dst := (some 6)) (v := (.bool false)) rfl rfl rfl noStore (none_ok _ _) rfl ?_
                    refine PQ.done (d := []) (by kernel_rfl) ?_
                    intro _
                    refine RA.ret env_ok ?_
                    refine ⟨.inr rfl, [(.bool false)], (resL_cons rfl resL_nil), (by exfalso; first | omega | (unfold tagsOk at *; omega)), (by intro i hi; simp only [keys, List.cons_append, List.nil_append, List.map_cons, List.map_nil, List.mem_cons, List.not_mem_nil, or_false, false_or] at hi; omega)⟩
                  ·
                    have qhc28 : ¬ (w32 (v.extract 0 (min v.size 30)) 8).toNat = 0 := fun q => hc28 ((hz8 (by omega)).2 q)
                    refine OA.pure (dst := (some 99)) (v := (.bool false)) rfl rfl rfl (Eq.trans (r_eqlS rfl rfl rfl) (by first | (rw [decide_eq_false hc28]; done) | (rw [decide_eq_false hc28]; rfl))) ?_
                    refine OA.pure (dst := (some 100)) (v := (.bool false)) rfl rfl rfl rfl ?_
                    refine OA.pure (dst := (some 16)) (v := (.bool false)) rfl rfl rfl rfl ?_
                    refine OA.nil ?_
                    intro _
                    refine RA.rebase [(0, (.agg ⟨[(.int .i64 typ), (.string v)]⟩)), (1, (W id)), (2, (.agg ⟨[(W a), (W b)]⟩)), (3, (.pointer (some ⟨n, 0, some 0⟩))), (5, (.pointer (some ⟨(n + 1), 0, some 0⟩))), (6, (.bool false)), (7, (.pointer (some ⟨(n + 2), 0, some 0⟩))), (8, (W 0#32)), (9, (W 0#32)), (10, (W 0#32)), (11, (.bool false)), (12, (W (w32 (v.extract 0 (min v.size 30)) 0))), (13, (W (w32 (v.extract 0 (min v.size 30)) 4))), (14, (W (w32 (v.extract 0 (min v.size 30)) 8))), (15, (.bool true)), (16, (.bool false)), (72, (.bool false)), (88, (.bool false))] ⟨rfl, rfl, rfl, rfl, rfl, rfl, rfl, rfl, rfl, rfl, rfl, rfl, rfl, rfl, rfl, rfl, rfl, rfl, trivial⟩ (fun τr39 => ?_)
                    refine RA.seq hd ?_
                    refine RA.par (md := [some [], some [], some [], some [], some [], some [], some [], some [], some [], some [], some [], some [], some [], some [], some [], some [], some [], some [(n + 2)], some [], some [], some [], some []]) env_ok (hd.of (by omega) (by intro i hi; simp only [keys, List.cons_append, List.nil_append, List.map_cons, List.map_nil, List.mem_cons, List.not_mem_nil, or_false, false_or] at hi; omega)) (by kernel_rfl) ?_
                    refine PQ.pure (dst := (some 101)) (v := (.bool true)) rfl rfl rfl noStore (none_ok _ _) rfl ?_
                    refine PQ.pure (dst := (some 102)) (v := (.bool false)) rfl rfl rfl noStore (none_ok _ _) rfl ?_
                    refine PQ.pure (dst := (some 103)) (v := (.bool true)) rfl rfl rfl noStore (none_ok _ _) rfl ?_
                    refine PQ.pure (dst := (some 104)) (v := (.bool true)) rfl rfl rfl noStore (none_ok _ _) rfl ?_
                    refine PQ.pure (dst := (some 105)) (v := (.bool true)) rfl rfl rfl noStore (none_ok _ _) rfl ?_
                    refine PQ.pure (dst := (some 106)) (v := (.bool true)) rfl rfl rfl noStore (none_ok _ _) rfl ?_
                    refine PQ.pure (dst := (some 107)) (v := (.bool false)) rfl rfl rfl noStore (none_ok _ _) rfl ?_
                    refine PQ.pure (dst := (some 108)) (v := (.bool false)) rfl rfl rfl noStore (none_ok _ _) rfl ?_
                    refine PQ.pure (dst := (some 109)) (v := (W (w32 (v.extract 0 (min v.size 30)) 0))) rfl rfl rfl noStore (none_ok _ _) rfl ?_
                    refine PQ.callP (dst := (some 110)) (all := [(W (w32 (v.extract 0 (min v.size 30)) 0))]) (v := (.string (bstr (be4 (w32 (v.extract 0 (min v.size 30)) 0))))) noStore (dom_none _) rfl rfl rfl rfl rfl rfl rfl rfl (none_ok _ _) (sU32 _) ?_
                    intro n40 hn40
                    refine PQ.pure (dst := (some 111)) (v := (W (w32 (v.extract 0 (min v.size 30)) 4))) rfl rfl rfl noStore (none_ok _ _) rfl ?_
                    refine PQ.callP (dst := (some 112)) (all := [(W (w32 (v.extract 0 (min v.size 30)) 4))]) (v := (.string (bstr (be4 (w32 (v.extract 0 (min v.size 30)) 4))))) noStore (dom_none _) rfl rfl rfl rfl rfl rfl rfl rfl (none_ok _ _) (sU32 _) ?_
                    intro n41 hn41
                    refine PQ.pure (dst := (some 113)) (v := (.string ((bstr (be4 (w32 (v.extract 0 (min v.size 30)) 0))) ++ (bstr (be4 (w32 (v.extract 0 (min v.size 30)) 4)))))) rfl rfl rfl noStore (none_ok _ _) (r_cat rfl rfl rfl (by (try simp only [ByteArray.size_append, bstr_size, size_lit, List.size_toArray, List.length_cons, List.length_nil, List.length_take, List.length_drop, List.length_replicate, be4_len]); try omega)) ?_
                    refine PQ.pure (dst := (some 114)) (v := (W (w32 (v.extract 0 (min v.size 30)) 8))) rfl rfl rfl noStore (none_ok _ _) rfl ?_
                    refine PQ.callP (dst := (some 115)) (all := [(W (w32 (v.extract 0 (min v.size 30)) 8))]) (v := (.string (bstr (be4 (w32 (v.extract 0 (min v.size 30)) 8))))) noStore (dom_none _) rfl rfl rfl rfl rfl rfl rfl rfl (none_ok _ _) (sU32 _) ?_
                    intro n42 hn42
                    refine PQ.pure (dst := (some 116)) (v := (.string (((bstr (be4 (w32 (v.extract 0 (min v.size 30)) 0))) ++ (bstr (be4 (w32 (v.extract 0 (min v.size 30)) 4)))) ++ (bstr (be4 (w32 (v.extract 0 (min v.size 30)) 8)))))) rfl rfl rfl noStore (none_ok _ _) (r_cat rfl rfl rfl (by (try simp only [ByteArray.size_append, bstr_size, size_lit, List.size_toArray, List.length_cons, List.length_nil, List.length_take, List.length_drop, List.length_replicate, be4_len]); try omega)) ?_
                    refine PQ.pure (dst := (some 117)) (v := (.pointer (some ⟨(n + 2), 0, some 1⟩))) rfl rfl rfl noStore (none_ok _ _) rfl ?_
                    refine PQ.pure (dst := (some 118)) (v := (.string (v.extract 0 (min v.size 30)))) rfl rfl rfl (app [((n + 2), some ⟨[[(.int .i64 typ), (.string (v.extract 0 (min v.size 30)))]], 2, 65, true⟩)] noStore) (seen_one (V := []) (D := [((n + 2), some ⟨[[(.int .i64 typ), (.string (v.extract 0 (min v.size 30)))]], 2, 65, true⟩), ((n + 2), some ⟨[[(.int .i64 0), (.string ByteArray.empty)]], 2, 65, true⟩), ((n + 1), some ⟨[[(W a), (W b)]], 2, 69, true⟩), (n, some ⟨[[(.int .i64 typ), (.string v)]], 2, 65, true⟩)]) (by kernel_rfl) get_here) (r_load1 rfl rfl rfl rfl rfl get_here rfl rfl) ?_
                    refine PQ.pure (dst := (some 119)) (v := (.bool (decide ((((bstr (be4 (w32 (v.extract 0 (min v.size 30)) 0))) ++ (bstr (be4 (w32 (v.extract 0 (min v.size 30)) 4)))) ++ (bstr (be4 (w32 (v.extract 0 (min v.size 30)) 8)))) = (v.extract 0 (min v.size 30)))))) rfl rfl rfl noStore (none_ok _ _) (r_eqlS rfl rfl rfl) ?_
                    refine PQ.pure (dst := (some 120)) (v := (.bool (decide ((((bstr (be4 (w32 (v.extract 0 (min v.size 30)) 0))) ++ (bstr (be4 (w32 (v.extract 0 (min v.size 30)) 4)))) ++ (bstr (be4 (w32 (v.extract 0 (min v.size 30)) 8)))) = (v.extract 0 (min v.size 30)))))) rfl rfl rfl noStore (none_ok _ _) rfl ?_
                    refine PQ.pure (dst := (some 121)) (v := (.bool (decide ((((bstr (be4 (w32 (v.extract 0 (min v.size 30)) 0))) ++ (bstr (be4 (w32 (v.extract 0 (min v.size 30)) 4)))) ++ (bstr (be4 (w32 (v.extract 0 (min v.size 30)) 8)))) = (v.extract 0 (min v.size 30)))))) rfl rfl rfl noStore (none_ok _ _) rfl ?_
                    refine PQ.pure (dst := (some 6)) (v := (.bool (decide ((((bstr (be4 (w32 (v.extract 0 (min v.size 30)) 0))) ++ (bstr (be4 (w32 (v.extract 0 (min v.size 30)) 4)))) ++ (bstr (be4 (w32 (v.extract 0 (min v.size 30)) 8)))) = (v.extract 0 (min v.size 30)))))) rfl rfl rfl noStore (none_ok _ _) rfl ?_
                    refine PQ.done (d := []) (by kernel_rfl) ?_
                    intro _
                    refine RA.ret env_ok ?_
                    refine ⟨.inr rfl, [(.bool (decide ((((bstr (be4 (w32 (v.extract 0 (min v.size 30)) 0))) ++ (bstr (be4 (w32 (v.extract 0 (min v.size 30)) 4)))) ++ (bstr (be4 (w32 (v.extract 0 (min v.size 30)) 8)))) = (v.extract 0 (min v.size 30)))))], (resL_cons rfl resL_nil), (cat_done (cat_at (by unfold tagsOk at *; omega))), (by intro i hi; simp only [keys, List.cons_append, List.nil_append, List.map_cons, List.map_nil, List.mem_cons, List.not_mem_nil, or_false, false_or] at hi; omega)⟩
        ·
          refine OA.callP (dst := (some 75)) (all := [(.agg ⟨[(.int .i64 typ), (.string (v.extract 0 (min v.size 30)))]⟩)]) (v := (.tuple ⟨[(W 0#32), (W 0#32), (W 0#32), (.bool false)]⟩)) (hd.of (by omega) (by intro i hi; simp only [keys, List.cons_append, List.nil_append, List.map_cons, List.map_nil, List.mem_cons, List.not_mem_nil, or_false, false_or] at hi; omega)) rfl rfl rfl rfl rfl rfl rfl rfl (sAs0 typ (v.extract 0 (min v.size 30)) (by rw [size_cut _ _ _ (by omega)]; omega) hc24) ?_
          intro n43 hn43
          refine OA.pure (dst := (some 73)) (v := (.tuple ⟨[(W 0#32), (W 0#32), (W 0#32), (.bool false)]⟩)) rfl rfl rfl rfl ?_
          refine OA.pure (dst := (some 76)) (v := (W 0#32)) rfl rfl rfl rfl ?_
          refine OA.pure (dst := (some 77)) (v := (W 0#32)) rfl rfl rfl rfl ?_
          refine OA.pure (dst := (some 78)) (v := (W 0#32)) rfl rfl rfl rfl ?_
          refine OA.pure (dst := (some 79)) (v := (.bool false)) rfl rfl rfl rfl ?_
          refine OA.pure (dst := (some 12)) (v := (W 0#32)) rfl rfl rfl rfl ?_
          refine OA.pure (dst := (some 13)) (v := (W 0#32)) rfl rfl rfl rfl ?_
          refine OA.pure (dst := (some 14)) (v := (W 0#32)) rfl rfl rfl rfl ?_
          refine OA.pure (dst := (some 15)) (v := (.bool false)) rfl rfl rfl rfl ?_
          refine OA.nil ?_
          intro _
          refine RA.seq hd ?_
          refine RA.seq hd ?_
          refine RA.region env_ok ?_
          refine OA.pure (dst := (some 80)) (v := (.pointer (some ⟨(n + 2), 0, some 0⟩))) rfl rfl rfl rfl ?_
          refine OA.pure (dst := (some 81)) (v := (.int .i64 typ)) rfl rfl rfl (r_load1 rfl rfl rfl rfl rfl get_here rfl rfl) ?_
          by_cases hc29 : typ ≠ 49160
          ·
            refine OA.pure (dst := (some 82)) (v := (.bool true)) rfl rfl rfl (Eq.trans (r_bin rfl rfl rfl (b_neq rfl)) (by first | (rw [decide_eq_true hc29]; done) | (rw [decide_eq_true hc29]; rfl))) ?_
            refine OA.pure (dst := (some 83)) (v := (.bool true)) rfl rfl rfl rfl ?_
            refine OA.off (dst := (some 84)) rfl rfl rfl ?_
            refine OA.off (dst := (some 85)) rfl rfl rfl ?_
            refine OA.off (dst := (some 86)) rfl rfl rfl ?_
            refine OA.off (dst := (some 87)) rfl rfl rfl ?_
            refine OA.pure (dst := (some 88)) (v := (.bool true)) rfl rfl rfl rfl ?_
            refine OA.nil ?_
            intro _
            refine RA.cond (t := true) rfl (fun hc => ?_) (fun hc => ?_)
            ·
              refine RA.seq hd ?_
              refine RA.region env_ok ?_
              refine OA.pure (dst := (some 89)) (v := (.bool false)) rfl rfl rfl rfl ?_
              refine OA.pure (dst := (some 90)) (v := (.bool true)) rfl rfl rfl rfl ?_
              refine OA.pure (dst := (some 6)) (v := (.bool true)) rfl rfl rfl rfl ?_
              refine OA.nil ?_
              intro _
              refine RA.ret env_ok ?_
              refine ⟨.inr rfl, [(.bool true)], (resL_cons rfl resL_nil), rfl, (by intro i hi; simp only [keys, List.cons_append, List.nil_append, List.map_cons, List.map_nil, List.mem_cons, List.not_mem_nil, or_false, false_or] at hi; omega)⟩
            · cases hc
          ·
            refine OA.pure (dst := (some 82)) (v := (.bool false)) rfl rfl rfl (Eq.trans (r_bin rfl rfl rfl (b_neq rfl)) (by first | (rw [decide_eq_false hc29]; done) | (rw [decide_eq_false hc29]; rfl))) ?_
            refine OA.pure (dst := (some 83)) (v := (.bool false)) rfl rfl rfl rfl ?_
            refine OA.pure (dst := (some 84)) (v := (.pointer (some ⟨(n + 2), 0, some 1⟩))) rfl rfl rfl rfl ?_
            refine OA.pure (dst := (some 85)) (v := (.string (v.extract 0 (min v.size 30)))) rfl rfl rfl (r_load1 rfl rfl rfl rfl rfl get_here rfl rfl) ?_
            refine OA.pure (dst := (some 86)) (v := (.int .i64 (((v.extract 0 (min v.size 30)).size : Nat) : Int))) rfl rfl rfl rfl ?_
            by_cases hc30 : (((v.extract 0 (min v.size 30)).size : Nat) : Int) ≠ 12
            ·
              refine OA.pure (dst := (some 87)) (v := (.bool true)) rfl rfl rfl (Eq.trans (r_bin rfl rfl rfl (b_neq rfl)) (by first | (rw [decide_eq_true hc30]; done) | (rw [decide_eq_true hc30]; rfl))) ?_
              refine OA.pure (dst := (some 88)) (v := (.bool true)) rfl rfl rfl rfl ?_
              refine OA.nil ?_
              intro _
              refine RA.cond (t := true) rfl (fun hc => ?_) (fun hc => ?_)
              ·
                refine RA.seq hd ?_
                refine RA.region env_ok ?_
                refine OA.pure (dst := (some 89)) (v := (.bool false)) rfl rfl rfl rfl ?_
                refine OA.pure (dst := (some 90)) (v := (.bool true)) rfl rfl rfl rfl ?_
                refine OA.pure (dst := (some 6)) (v := (.bool true)) rfl rfl rfl rfl ?_
                refine OA.nil ?_
                intro _
                refine RA.ret env_ok ?_
                refine ⟨.inr rfl, [(.bool true)], (resL_cons rfl resL_nil), rfl, (by intro i hi; simp only [keys, List.cons_append, List.nil_append, List.map_cons, List.map_nil, List.mem_cons, List.not_mem_nil, or_false, false_or] at hi; omega)⟩
              · cases hc
            ·
              refine OA.pure (dst := (some 87)) (v := (.bool false)) rfl rfl rfl (Eq.trans (r_bin rfl rfl rfl (b_neq rfl)) (by first | (rw [decide_eq_false hc30]; done) | (rw [decide_eq_false hc30]; rfl))) ?_
              refine OA.pure (dst := (some 88)) (v := (.bool false)) rfl rfl rfl rfl ?_
              refine OA.nil ?_
              intro _
              refine RA.cond (t := false) rfl (fun hc => ?_) (fun hc => ?_)
              · cases hc
              ·
                refine RA.skip env_ok ?_
                intro _
                refine RA.seq hd ?_
                refine RA.region env_ok ?_
                refine OA.pure (dst := (some 91)) (v := (.pointer (some ⟨(n + 2), 0, some 1⟩))) rfl rfl rfl rfl ?_
                refine OA.pure (dst := (some 92)) (v := (.string (v.extract 0 (min v.size 30)))) rfl rfl rfl (r_load1 rfl rfl rfl rfl rfl get_here rfl rfl) ?_
                refine OA.pure (dst := (some 93)) (v := (.string ((v.extract 0 (min v.size 30)).extract 4 8))) rfl rfl rfl (r_cut (a := 4) (b := 8) rfl rfl (fun _ => rfl) (fun _ => rfl) rfl rfl rfl rfl (by omega) (by omega) rfl) ?_
                by_cases hc31 : ((v.extract 0 (min v.size 30)).extract 4 8) = (ByteArray.mk #[0, 0, 0, 0])
                ·
                  have qhc31 : (w32 (v.extract 0 (min v.size 30)) 4).toNat = 0 := (hz4 (by omega)).1 hc31
                  refine OA.pure (dst := (some 94)) (v := (.bool true)) rfl rfl rfl (Eq.trans (r_eqlS rfl rfl rfl) (by first | (rw [decide_eq_true hc31]; done) | (rw [decide_eq_true hc31]; rfl))) ?_
                  refine OA.pure (dst := (some 95)) (v := (.bool true)) rfl rfl rfl rfl ?_
                  refine OA.off (dst := (some 96)) rfl rfl rfl ?_
                  refine OA.off (dst := (some 97)) rfl rfl rfl ?_
                  refine OA.off (dst := (some 98)) rfl rfl rfl ?_
                  refine OA.off (dst := (some 99)) rfl rfl rfl ?_
                  refine OA.pure (dst := (some 100)) (v := (.bool true)) rfl rfl rfl rfl ?_
                  refine OA.pure (dst := (some 16)) (v := (.bool true)) rfl rfl rfl rfl ?_
                  refine OA.nil ?_
                  intro _
                  refine RA.rebase [(0, (.agg ⟨[(.int .i64 typ), (.string v)]⟩)), (1, (W id)), (2, (.agg ⟨[(W a), (W b)]⟩)), (3, (.pointer (some ⟨n, 0, some 0⟩))), (5, (.pointer (some ⟨(n + 1), 0, some 0⟩))), (6, (.bool false)), (7, (.pointer (some ⟨(n + 2), 0, some 0⟩))), (8, (W 0#32)), (9, (W 0#32)), (10, (W 0#32)), (11, (.bool false)), (12, (W 0#32)), (13, (W 0#32)), (14, (W 0#32)), (15, (.bool false)), (16, (.bool true)), (72, (.bool false)), (88, (.bool false))] ⟨rfl, rfl, rfl, rfl, rfl, rfl, rfl, rfl, rfl, rfl, rfl, rfl, rfl, rfl, rfl, rfl, rfl, rfl, trivial⟩ (fun τr44 => ?_)
                  refine RA.seq hd ?_
                  refine RA.par (md := [some [], some [], some [], some [], some [], some [], some [], some [], some [], some [], some [], some [], some [], some [], some [], some [], some [], some [(n + 2)], some [], some [], some [], some []]) env_ok (hd.of (by omega) (by intro i hi; simp only [keys, List.cons_append, List.nil_append, List.map_cons, List.map_nil, List.mem_cons, List.not_mem_nil, or_false, false_or] at hi; omega)) (by kernel_rfl) ?_
                  refine PQ.pure (dst := (some 101)) (v := (.bool false)) rfl rfl rfl noStore (none_ok _ _) rfl ?_
                  refine PQ.pure (dst := (some 102)) (v := (.bool true)) rfl rfl rfl noStore (none_ok _ _) rfl ?_
                  refine PQ.pure (dst := (some 103)) (v := (.bool false)) rfl rfl rfl noStore (none_ok _ _) rfl ?_
                  refine PQ.pure (dst := (some 104)) (v := (.bool true)) rfl rfl rfl noStore (none_ok _ _) rfl ?_
                  refine PQ.pure (dst := (some 105)) (v := (.bool true)) rfl rfl rfl noStore (none_ok _ _) rfl ?_
                  refine PQ.pure (dst := (some 106)) (v := (.bool false)) rfl rfl rfl noStore (none_ok _ _) rfl ?_
                  refine PQ.pure (dst := (some 107)) (v := (.bool true)) rfl rfl rfl noStore (none_ok _ _) rfl ?_
                  refine PQ.pure (dst := (some 108)) (v := (.bool true)) rfl rfl rfl noStore (none_ok _ _) rfl ?_
                  refine PQ.off (dst := (some 109)) rfl rfl rfl ?_
                  refine PQ.off (dst := (some 110)) rfl rfl rfl ?_
                  refine PQ.off (dst := (some 111)) rfl rfl rfl ?_
                  refine PQ.off (dst := (some 112)) rfl rfl rfl ?_
                  refine PQ.off (dst := (some 113)) rfl rfl rfl ?_
                  refine PQ.off (dst := (some 114)) rfl rfl rfl ?_
                  refine PQ.off (dst := (some 115)) rfl rfl rfl ?_
                  refine PQ.off (dst := (some 116)) rfl rfl rfl ?_
                  refine PQ.off (dst := (some 117)) rfl rfl rfl ?_
                  refine PQ.off (dst := (some 118)) rfl rfl rfl ?_
                  refine PQ.off (dst := (some 119)) rfl rfl rfl ?_
                  refine PQ.pure (dst := (some 120)) (v := (.bool true)) rfl rfl rfl noStore (none_ok _ _) rfl ?_
                  refine PQ.pure (dst := (some 121)) (v := (.bool true)) rfl rfl rfl noStore (none_ok _ _) rfl ?_
                  refine PQ.pure (dst := (some 6)) (v := (.bool true)) rfl rfl rfl noStore (none_ok _ _) rfl ?_
                  refine PQ.done (d := []) (by kernel_rfl) ?_
                  intro _
                  refine RA.ret env_ok ?_
                  refine ⟨.inr rfl, [(.bool true)], (resL_cons rfl resL_nil), rfl, (by intro i hi; simp only [keys, List.cons_append, List.nil_append, List.map_cons, List.map_nil, List.mem_cons, List.not_mem_nil, or_false, false_or] at hi; omega)⟩
                ·
                  have qhc31 : ¬ (w32 (v.extract 0 (min v.size 30)) 4).toNat = 0 := fun q => hc31 ((hz4 (by omega)).2 q)
                  refine OA.pure (dst := (some 94)) (v := (.bool false)) rfl rfl rfl (Eq.trans (r_eqlS rfl rfl rfl) (by first | (rw [decide_eq_false hc31]; done) | (rw [decide_eq_false hc31]; rfl))) ?_
                  refine OA.pure (dst := (some 95)) (v := (.bool false)) rfl rfl rfl rfl ?_
                  refine OA.pure (dst := (some 96)) (v := (.pointer (some ⟨(n + 2), 0, some 1⟩))) rfl rfl rfl rfl ?_
                  refine OA.pure (dst := (some 97)) (v := (.string (v.extract 0 (min v.size 30)))) rfl rfl rfl (r_load1 rfl rfl rfl rfl rfl get_here rfl rfl) ?_
                  refine OA.pure (dst := (some 98)) (v := (.string ((v.extract 0 (min v.size 30)).extract 8 (v.extract 0 (min v.size 30)).size))) rfl rfl rfl (r_cut (a := 8) (b := (v.extract 0 (min v.size 30)).size) rfl rfl (fun _ => rfl) (fun _ => rfl) rfl rfl rfl rfl (by omega) (by omega) rfl) ?_
                  by_cases hc32 : ((v.extract 0 (min v.size 30)).extract 8 (v.extract 0 (min v.size 30)).size) = (ByteArray.mk #[0, 0, 0, 0])
                  ·
                    have qhc32 : (w32 (v.extract 0 (min v.size 30)) 8).toNat = 0 := (hz8 (by omega)).1 hc32
                    refine OA.pure (dst := (some 99)) (v := (.bool true)) rfl rfl rfl (Eq.trans (r_eqlS rfl rfl rfl) (by first | (rw [decide_eq_true hc32]; done) | (rw [decide_eq_true hc32]; rfl))) ?_
                    refine OA.pure (dst := (some 100)) (v := (.bool true)) rfl rfl rfl rfl ?_
                    refine OA.pure (dst := (some 16)) (v := (.bool true)) rfl rfl rfl rfl ?_
                    refine OA.nil ?_
                    intro _
                    refine RA.rebase [(0, (.agg ⟨[(.int .i64 typ), (.string v)]⟩)), (1, (W id)), (2, (.agg ⟨[(W a), (W b)]⟩)), (3, (.pointer (some ⟨n, 0, some 0⟩))), (5, (.pointer (some ⟨(n + 1), 0, some 0⟩))), (6, (.bool false)), (7, (.pointer (some ⟨(n + 2), 0, some 0⟩))), (8, (W 0#32)), (9, (W 0#32)), (10, (W 0#32)), (11, (.bool false)), (12, (W 0#32)), (13, (W 0#32)), (14, (W 0#32)), (15, (.bool false)), (16, (.bool true)), (72, (.bool false)), (88, (.bool false))] ⟨rfl, rfl, rfl, rfl, rfl, rfl, rfl, rfl, rfl, rfl, rfl, rfl, rfl, rfl, rfl, rfl, rfl, rfl, trivial⟩ (fun τr45 => ?_)
                    refine RA.seq hd ?_
                    refine RA.par (md := [some [], some [], some [], some [], some [], some [], some [], some [], some [], some [], some [], some [], some [], some [], some [], some [], some [], some [(n + 2)], some [], some [], some [], some []]) env_ok (hd.of (by omega) (by intro i hi; simp only [keys, List.cons_append, List.nil_append, List.map_cons, List.map_nil, List.mem_cons, List.not_mem_nil, or_false, false_or] at hi; omega)) (by kernel_rfl) ?_
                    refine PQ.pure (dst := (some 101)) (v := (.bool false)) rfl rfl rfl noStore (none_ok _ _) rfl ?_
                    refine PQ.pure (dst := (some 102)) (v := (.bool true)) rfl rfl rfl noStore (none_ok _ _) rfl ?_
                    refine PQ.pure (dst := (some 103)) (v := (.bool false)) rfl rfl rfl noStore (none_ok _ _) rfl ?_
                    refine PQ.pure (dst := (some 104)) (v := (.bool true)) rfl rfl rfl noStore (none_ok _ _) rfl ?_
                    refine PQ.pure (dst := (some 105)) (v := (.bool true)) rfl rfl rfl noStore (none_ok _ _) rfl ?_
                    refine PQ.pure (dst := (some 106)) (v := (.bool false)) rfl rfl rfl noStore (none_ok _ _) rfl ?_
                    refine PQ.pure (dst := (some 107)) (v := (.bool true)) rfl rfl rfl noStore (none_ok _ _) rfl ?_
                    refine PQ.pure (dst := (some 108)) (v := (.bool true)) rfl rfl rfl noStore (none_ok _ _) rfl ?_
                    refine PQ.off (dst := (some 109)) rfl rfl rfl ?_
                    refine PQ.off (dst := (some 110)) rfl rfl rfl ?_
                    refine PQ.off (dst := (some 111)) rfl rfl rfl ?_
                    refine PQ.off (dst := (some 112)) rfl rfl rfl ?_
                    refine PQ.off (dst := (some 113)) rfl rfl rfl ?_
                    refine PQ.off (dst := (some 114)) rfl rfl rfl ?_
                    refine PQ.off (dst := (some 115)) rfl rfl rfl ?_
                    refine PQ.off (dst := (some 116)) rfl rfl rfl ?_
                    refine PQ.off (dst := (some 117)) rfl rfl rfl ?_
                    refine PQ.off (dst := (some 118)) rfl rfl rfl ?_
                    refine PQ.off (dst := (some 119)) rfl rfl rfl ?_
                    refine PQ.pure (dst := (some 120)) (v := (.bool true)) rfl rfl rfl noStore (none_ok _ _) rfl ?_
                    refine PQ.pure (dst := (some 121)) (v := (.bool true)) rfl rfl rfl noStore (none_ok _ _) rfl ?_
                    refine PQ.pure (dst := (some 6)) (v := (.bool true)) rfl rfl rfl noStore (none_ok _ _) rfl ?_
                    refine PQ.done (d := []) (by kernel_rfl) ?_
                    intro _
                    refine RA.ret env_ok ?_
                    refine ⟨.inr rfl, [(.bool true)], (resL_cons rfl resL_nil), rfl, (by intro i hi; simp only [keys, List.cons_append, List.nil_append, List.map_cons, List.map_nil, List.mem_cons, List.not_mem_nil, or_false, false_or] at hi; omega)⟩
                  ·
                    have qhc32 : ¬ (w32 (v.extract 0 (min v.size 30)) 8).toNat = 0 := fun q => hc32 ((hz8 (by omega)).2 q)
                    refine OA.pure (dst := (some 99)) (v := (.bool false)) rfl rfl rfl (Eq.trans (r_eqlS rfl rfl rfl) (by first | (rw [decide_eq_false hc32]; done) | (rw [decide_eq_false hc32]; rfl))) ?_
                    refine OA.pure (dst := (some 100)) (v := (.bool false)) rfl rfl rfl rfl ?_
                    refine OA.pure (dst := (some 16)) (v := (.bool false)) rfl rfl rfl rfl ?_
                    refine OA.nil ?_
                    intro _
                    refine RA.rebase [(0, (.agg ⟨[(.int .i64 typ), (.string v)]⟩)), (1, (W id)), (2, (.agg ⟨[(W a), (W b)]⟩)), (3, (.pointer (some ⟨n, 0, some 0⟩))), (5, (.pointer (some ⟨(n + 1), 0, some 0⟩))), (6, (.bool false)), (7, (.pointer (some ⟨(n + 2), 0, some 0⟩))), (8, (W 0#32)), (9, (W 0#32)), (10, (W 0#32)), (11, (.bool false)), (12, (W 0#32)), (13, (W 0#32)), (14, (W 0#32)), (15, (.bool false)), (16, (.bool false)), (72, (.bool false)), (88, (.bool false))] ⟨rfl, rfl, rfl, rfl, rfl, rfl, rfl, rfl, rfl, rfl, rfl, rfl, rfl, rfl, rfl, rfl, rfl, rfl, trivial⟩ (fun τr46 => ?_)
                    refine RA.seq hd ?_
                    refine RA.par (md := [some [], some [], some [], some [], some [], some [], some [], some [], some [], some [], some [], some [], some [], some [], some [], some [], some [], some [(n + 2)], some [], some [], some [], some []]) env_ok (hd.of (by omega) (by intro i hi; simp only [keys, List.cons_append, List.nil_append, List.map_cons, List.map_nil, List.mem_cons, List.not_mem_nil, or_false, false_or] at hi; omega)) (by kernel_rfl) ?_
                    refine PQ.pure (dst := (some 101)) (v := (.bool false)) rfl rfl rfl noStore (none_ok _ _) rfl ?_
                    refine PQ.pure (dst := (some 102)) (v := (.bool false)) rfl rfl rfl noStore (none_ok _ _) rfl ?_
                    refine PQ.pure (dst := (some 103)) (v := (.bool true)) rfl rfl rfl noStore (none_ok _ _) rfl ?_
                    refine PQ.pure (dst := (some 104)) (v := (.bool false)) rfl rfl rfl noStore (none_ok _ _) rfl ?_
                    refine PQ.pure (dst := (some 105)) (v := (.bool false)) rfl rfl rfl noStore (none_ok _ _) rfl ?_
                    refine PQ.off (dst := (some 106)) rfl rfl rfl ?_
                    refine PQ.off (dst := (some 107)) rfl rfl rfl ?_
                    refine PQ.off (dst := (some 108)) rfl rfl rfl ?_
                    refine PQ.off (dst := (some 109)) rfl rfl rfl ?_
                    refine PQ.off (dst := (some 110)) rfl rfl rfl ?_
                    refine PQ.off (dst := (some 111)) rfl rfl rfl ?_
                    refine PQ.off (dst := (some 112)) rfl rfl rfl ?_
                    refine PQ.off (dst := (some 113)) rfl rfl rfl ?_
                    refine PQ.off (dst := (some 114)) rfl rfl rfl ?_
                    refine PQ.off (dst := (some 115)) rfl rfl rfl ?_
                    refine PQ.off (dst := (some 116)) rfl rfl rfl ?_
                    refine PQ.off (dst := (some 117)) rfl rfl rfl ?_
                    refine PQ.off (dst := (some 118)) rfl rfl rfl ?_
                    refine PQ.off (dst := (some 119)) rfl rfl rfl ?_
                    refine PQ.off (dst := (some 120)) rfl rfl rfl ?_
                    refine PQ.pure (dst := (some 121)) (v := (.bool false)) rfl rfl rfl noStore (none_ok _ _) rfl ?_
                    refine PQ.pure (dst := (some 6)) (v := (.bool false)) rfl rfl rfl noStore (none_ok _ _) rfl ?_
                    refine PQ.done (d := []) (by kernel_rfl) ?_
                    intro _
                    refine RA.ret env_ok ?_
                    refine ⟨.inr rfl, [(.bool false)], (resL_cons rfl resL_nil), (by exfalso; first | omega | (unfold tagsOk at *; omega)), (by intro i hi; simp only [keys, List.cons_append, List.nil_append, List.map_cons, List.map_nil, List.mem_cons, List.not_mem_nil, or_false, false_or] at hi; omega)⟩
end Go.Proofs.Ytmdncojhnbbafaa.Vt
