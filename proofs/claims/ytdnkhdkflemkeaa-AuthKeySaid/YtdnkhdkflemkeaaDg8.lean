/- Dg8: walks through functions of the program, by the calculus; written by a program of this workplace. -/
import Derived.Test.YtdnkhdkflemkeaaDg7
import Derived.Test.YtdnkhdkflemkeaaVm5
namespace Go.Proofs.Ytdnkhdkflemkeaa.Vt
open Go Go.Proofs Go.Proofs.YtdnkhdkflemkeaaV
set_option maxRecDepth 100000
set_option linter.unusedVariables false
set_option linter.unusedSimpArgs false
set_option maxHeartbeats 4000000 in
theorem s16 {σ : Store} (s : ByteArray) (hs0 : s.size < 4294967296)   : PS Try.prog noDen 16 [(.string s)] σ (.string (sha s)) := by
 refine PS.body (E := env) env_ok rfl rfl (by show _ ≤ _; exact of_decide_eq_true (by kernel_rfl)) (fun n hd => ?_)
 refine RA.seq hd ?_
 refine RA.region env_ok ?_
 refine OA.p (some 2) (.string (ByteArray.mk #[])) rfl rfl rfl rfl ?_
 refine OA.nil ?_
 intro _
 refine RA.seq hd ?_
 refine RA.region env_ok ?_
 refine OA.p (some 8) (.string s) rfl rfl rfl rfl ?_
 refine OA.p (some 9) (.string (s ++ (ByteArray.mk #[128]))) rfl rfl rfl (r_cat rfl rfl rfl (by (try simp only [ByteArray.size_append, bstr_size, size_lit, List.size_toArray, List.length_cons, List.length_nil, List.length_take, List.length_drop, List.length_replicate, putL_len]); try omega)) ?_
 refine OA.p (some 3) (.string (s ++ (ByteArray.mk #[128]))) rfl rfl rfl rfl ?_
 refine OA.nil ?_
 intro _
 refine RA.seq hd ?_
 refine RA.block ?_
 refine RA.loop hd (fun kk_ τ n' D => ∃ z : Nat,  kk_ = ((119 - s.size % 64) % 64 - z) ∧ n ≤ n' ∧ Has τ [(0, (.string s)), (3, (.string ((s ++ (ByteArray.mk #[128])) ++ (bstr (List.replicate z 0)))))] ∧ D = [] ∧ (∀ i ∈ keys D, i < n') ∧ z ≤ (119 - s.size % 64) % 64) (((119 - s.size % 64) % 64 - 0)) ⟨0, rfl, by omega, ⟨rfl, (congrArg Value.string (rep_zero _)), trivial⟩, rfl, (fun i hi => by cases hi), by omega⟩ ?_
 rintro kn1 τ1 n1 _ ⟨z, rfl, hn1, hHn1, rfl, hKn1, hIn1⟩
 rw [Has.eq hHn1]
 simp only [keys, List.map, List.forall_mem_cons, List.mem_cons, List.not_mem_nil, false_imp_iff, implies_true, and_true] at hKn1
 have hsz : ((s ++ ⟨#[128]⟩) ++ (bstr (List.replicate z 0)) : ByteArray).size = s.size + 1 + z := by simp only [ByteArray.size_append, bstr_size, size_lit, List.size_toArray, List.length_cons, List.length_nil, List.length_replicate]
 refine RA.seq hd ?_
 refine RA.seq hd ?_
 refine RA.region env_ok ?_
 refine OA.p (some 10) (.string ((s ++ (ByteArray.mk #[128])) ++ (bstr (List.replicate z 0)))) rfl rfl rfl rfl ?_
 refine OA.p (some 11) (.int .i64 ((((s ++ (ByteArray.mk #[128])) ++ (bstr (List.replicate z 0))).size : Nat) : Int)) rfl rfl rfl rfl ?_
 refine OA.p (some 12) (.int .i64 (((((s ++ (ByteArray.mk #[128])) ++ (bstr (List.replicate z 0))).size % 64) : Nat) : Int)) rfl rfl rfl (r_bin rfl rfl rfl (b_remN (a := ((s ++ (ByteArray.mk #[128])) ++ (bstr (List.replicate z 0))).size) (c := 64) (by decide))) ?_
 by_cases hc1 : (((((s ++ (ByteArray.mk #[128])) ++ (bstr (List.replicate z 0))).size % 64) : Nat) : Int) ≠ 56
 ·
  refine OA.p (some 13) (.bool true) rfl rfl rfl (Eq.trans (r_bin rfl rfl rfl (b_neq rfl)) (dT hc1)) ?_
  refine OA.nil ?_
  intro _
  refine RA.condT rfl ?_
  refine RA.skip env_ok ?_
  intro _
  refine RA.block ?_
  refine RA.region env_ok ?_
  refine OA.p (some 14) (.string ((s ++ (ByteArray.mk #[128])) ++ (bstr (List.replicate z 0)))) rfl rfl rfl rfl ?_
  refine OA.p (some 15) (.string (((s ++ (ByteArray.mk #[128])) ++ (bstr (List.replicate z 0))) ++ (ByteArray.mk #[0]))) rfl rfl rfl (r_cat rfl rfl rfl (by (try simp only [ByteArray.size_append, bstr_size, size_lit, List.size_toArray, List.length_cons, List.length_nil, List.length_take, List.length_drop, List.length_replicate, putL_len]); try omega)) ?_
  refine OA.p (some 3) (.string (((s ++ (ByteArray.mk #[128])) ++ (bstr (List.replicate z 0))) ++ (ByteArray.mk #[0]))) rfl rfl rfl rfl ?_
  refine OA.nil ?_
  refine ⟨((119 - s.size % 64) % 64 - (z + 1)), by omega, [], (Less.refl _ _ _), (z + 1), rfl, by omega, ⟨rfl, (congrArg Value.string (rep_snoc _ _)), trivial⟩, rfl, (fun i hi => by cases hi), by omega⟩
 ·
  refine OA.p (some 13) (.bool false) rfl rfl rfl (Eq.trans (r_bin rfl rfl rfl (b_neq rfl)) (dF hc1)) ?_
  refine OA.nil ?_
  intro _
  refine RA.condF rfl ?_
  refine RA.exit env_ok ?_
  intro _
  refine RA.seq hd ?_
  refine RA.region env_ok ?_
  refine OA.p (some 16) (.string ((s ++ (ByteArray.mk #[128])) ++ (bstr (List.replicate z 0)))) rfl rfl rfl rfl ?_
  refine OA.p (some 17) (.string s) rfl rfl rfl rfl ?_
  refine OA.p (some 18) (.int .i64 ((s.size : Nat) : Int)) rfl rfl rfl rfl ?_
  refine OA.p (some 19) (.int .u64 ((s.size : Nat) : Int)) rfl rfl rfl (r_cvt rfl rfl rfl rfl rfl ⟨_, rfl⟩ (u64_eq (by omega))) ?_
  refine OA.p (some 20) (.int .u64 (((s.size * 8) : Nat) : Int)) rfl rfl rfl (r_bin rfl rfl rfl (b_mul (u64_eq (by omega)))) ?_
  refine OA.callP (dst := (some 21)) (all := [(.int .u64 (((s.size * 8) : Nat) : Int)), (.int .i64 8)]) (v := (.string (bstr (putL (s.size * 8) 8)))) (hd.up (by omega)) rfl rfl rfl rfl rfl rfl rfl rfl (s41 8 (s.size * 8) (by omega) (by decide)) ?_
  intro n2 hn2
  refine OA.p (some 22) (.string (((s ++ (ByteArray.mk #[128])) ++ (bstr (List.replicate z 0))) ++ (bstr (putL (s.size * 8) 8)))) rfl rfl rfl (r_cat rfl rfl rfl (by (try simp only [ByteArray.size_append, bstr_size, size_lit, List.size_toArray, List.length_cons, List.length_nil, List.length_take, List.length_drop, List.length_replicate, putL_len]); try omega)) ?_
  refine OA.p (some 3) (.string (((s ++ (ByteArray.mk #[128])) ++ (bstr (List.replicate z 0))) ++ (bstr (putL (s.size * 8) 8)))) rfl rfl rfl rfl ?_
  refine OA.nil ?_
  intro _
  refine RA.seq hd ?_
  refine RA.region env_ok ?_
  refine OA.p (some 23) (.agg ⟨[(.int .u32 1732584193), (.int .u32 4023233417), (.int .u32 2562383102), (.int .u32 271733878), (.int .u32 3285377520)]⟩) rfl rfl rfl (by kernel_rfl) ?_
  refine OA.op1 (dst := (some 4)) (v := (.pointer (some ⟨n2, 0, some 0⟩))) (n1 := (n2 + 1)) (w := (n2, some ⟨[[(.int .u32 0), (.int .u32 0), (.int .u32 0), (.int .u32 0), (.int .u32 0)]], 5, 59, true⟩)) rfl rfl rfl rfl (by omega) ?_
  refine OA.op1 (dst := none) (v := (.tuple #[])) (n1 := (n2 + 1)) (w := (n2, some ⟨[[(.int .u32 1732584193), (.int .u32 4023233417), (.int .u32 2562383102), (.int .u32 271733878), (.int .u32 3285377520)]], 5, 59, true⟩)) rfl rfl rfl (r_store rfl rfl rfl rfl rfl rfl rfl get_here rfl rfl (Nat.le_of_ble_eq_true rfl) rfl) (by omega) ?_
  refine OA.nil ?_
  intro _
  refine RA.seq hd ?_
  refine RA.seq hd ?_
  refine RA.region env_ok ?_
  refine OA.p (some 5) (.int .i64 0) rfl rfl rfl rfl ?_
  refine OA.nil ?_
  intro _
  refine RA.block ?_
  have hz : z = (119 - s.size % 64) % 64 := by omega
  have hp := padded_size s
  have hp64 := padded_mod s
  refine RA.weaken (D' := [(n2, some ⟨[[(.int .u32 1732584193), (.int .u32 4023233417), (.int .u32 2562383102), (.int .u32 271733878), (.int .u32 3285377520)]], 5, 59, true⟩)]) hd (Less.of (fac (mm (fun _ => get_here) (fun _ => get_here)) fan) (gone_of (by simp only [goneP, memP, List.cons_append, List.nil_append, true_or, or_true, true_and, and_true, or_false] <;> omega))) ?_
  refine RA.loop hd (fun kk_ τ n' D => ∃ j : Nat,  kk_ = ((padded s).size - 64 * j) ∧ (n2 + 1) ≤ n' ∧ Has τ [(3, (.string (padded s))), (4, (.pointer (some ⟨n2, 0, some 0⟩))), (5, (.int .i64 (((64 * j) : Nat) : Int)))] ∧ D = [(n2, some ⟨[[(W (hs (padded s) j).a), (W (hs (padded s) j).b), (W (hs (padded s) j).c), (W (hs (padded s) j).d), (W (hs (padded s) j).e)]], 5, 59, true⟩)] ∧ (∀ i ∈ keys D, i < n') ∧ 64 * j ≤ (padded s).size) (((padded s).size - 64 * 0)) ⟨0, rfl, by omega, ⟨(by show Value.string _ = Value.string _; rw [putL_8, hz]; rfl), rfl, rfl, trivial⟩, rfl, (kb1 (by omega)), by omega⟩ ?_
  rintro kn3 τ3 n3 _ ⟨j, rfl, hn3, hHn3, rfl, hKn3, hIn3⟩
  rw [Has.eq hHn3]
  have hKn3_0 : n2 < n3 := hKn3 _ (by simp only [keys, List.map_cons, List.map_nil, List.mem_cons, true_or, or_true])
  simp only [keys, List.map, List.forall_mem_cons, List.mem_cons, List.not_mem_nil, false_imp_iff, implies_true, and_true] at hKn3
  refine RA.seq hd ?_
  refine RA.seq hd ?_
  refine RA.region env_ok ?_
  refine OA.p (some 24) (.int .i64 (((64 * j) : Nat) : Int)) rfl rfl rfl rfl ?_
  refine OA.p (some 25) (.string (padded s)) rfl rfl rfl rfl ?_
  refine OA.p (some 26) (.int .i64 (((padded s).size : Nat) : Int)) rfl rfl rfl rfl ?_
  by_cases hc2 : (((64 * j) : Nat) : Int) < (((padded s).size : Nat) : Int)
  ·
   refine OA.p (some 27) (.bool true) rfl rfl rfl (Eq.trans (r_bin rfl rfl rfl (b_lss rfl)) (dT hc2)) ?_
   refine OA.nil ?_
   intro _
   refine RA.condT rfl ?_
   refine RA.skip env_ok ?_
   intro _
   refine RA.seq hd ?_
   refine RA.block ?_
   refine RA.par (md := [some [n2], some [], some [], some [], some [], some [], some [], none]) env_ok (hd.of (by omega) (kb1 (by omega))) (by kernel_rfl) ?_
   refine PQ.pure (dst := (some 30)) (v := (.agg ⟨[(W (hs (padded s) j).a), (W (hs (padded s) j).b), (W (hs (padded s) j).c), (W (hs (padded s) j).d), (W (hs (padded s) j).e)]⟩)) rfl rfl rfl (app [(n2, some ⟨[[(W (hs (padded s) j).a), (W (hs (padded s) j).b), (W (hs (padded s) j).c), (W (hs (padded s) j).d), (W (hs (padded s) j).e)]], 5, 59, true⟩)] noStore) (seen_one (V := []) (D := [(n2, some ⟨[[(W (hs (padded s) j).a), (W (hs (padded s) j).b), (W (hs (padded s) j).c), (W (hs (padded s) j).d), (W (hs (padded s) j).e)]], 5, 59, true⟩)]) (by kernel_rfl) get_here) (r_loadA rfl rfl rfl rfl get_here rfl rfl rfl) ?_
   refine PQ.pure (dst := (some 31)) (v := (.string (padded s))) rfl rfl rfl noStore (none_ok _ _) rfl ?_
   refine PQ.pure (dst := (some 32)) (v := (.int .i64 (((64 * j) : Nat) : Int))) rfl rfl rfl noStore (none_ok _ _) rfl ?_
   refine PQ.pure (dst := (some 33)) (v := (.int .i64 (((64 * j) : Nat) : Int))) rfl rfl rfl noStore (none_ok _ _) rfl ?_
   refine PQ.pure (dst := (some 34)) (v := (.int .i64 ((((64 * j) + 64) : Nat) : Int))) rfl rfl rfl noStore (none_ok _ _) (r_bin rfl rfl rfl (b_add (i64_eq (by omega)))) ?_
   refine PQ.pure (dst := (some 35)) (v := (.string ((padded s).extract (64 * j) ((64 * j) + 64)))) rfl rfl rfl noStore (none_ok _ _) (r_cut (a := (64 * j)) (b := ((64 * j) + 64)) rfl rfl (fun _ => rfl) (fun _ => rfl) rfl rfl bound_nat bound_nat (by omega) (by omega) rfl) ?_
   refine PQ.callP (dst := (some 36)) (all := [(.agg ⟨[(W (hs (padded s) j).a), (W (hs (padded s) j).b), (W (hs (padded s) j).c), (W (hs (padded s) j).d), (W (hs (padded s) j).e)]⟩), (.string ((padded s).extract (64 * j) ((64 * j) + 64)))]) (v := (.agg ⟨[(W (hs (padded s) (j + 1)).a), (W (hs (padded s) (j + 1)).b), (W (hs (padded s) (j + 1)).c), (W (hs (padded s) (j + 1)).d), (W (hs (padded s) (j + 1)).e)]⟩)) noStore (dom_none _) rfl rfl rfl rfl rfl rfl rfl rfl (none_ok _ _) (s42t (padded s) j (by omega)) ?_
   intro n4 hn4
   refine PQ.op (dst := none) (v := (.tuple #[])) (n1 := n4) (d1 := [(n2, some ⟨[[(W (hs (padded s) (j + 1)).a), (W (hs (padded s) (j + 1)).b), (W (hs (padded s) (j + 1)).c), (W (hs (padded s) (j + 1)).d), (W (hs (padded s) (j + 1)).e)]], 5, 59, true⟩)]) rfl rfl rfl _ (seen_any (V := []) (D := [(n2, some ⟨[[(W (hs (padded s) j).a), (W (hs (padded s) j).b), (W (hs (padded s) j).c), (W (hs (padded s) j).d), (W (hs (padded s) j).e)]], 5, 59, true⟩)]) (by kernel_rfl)) (r_store rfl rfl rfl rfl rfl rfl rfl get_here rfl rfl (Nat.le_of_ble_eq_true rfl) rfl) (by omega) (kp1 (wr_tight (by kernel_rfl) (by omega))) ?_
   refine PQ.done (d := [(n2, some ⟨[[(W (hs (padded s) (j + 1)).a), (W (hs (padded s) (j + 1)).b), (W (hs (padded s) (j + 1)).c), (W (hs (padded s) (j + 1)).d), (W (hs (padded s) (j + 1)).e)]], 5, 59, true⟩)]) (by kernel_rfl) ?_
   intro _
   refine RA.region env_ok ?_
   refine OA.p (some 28) (.int .i64 (((64 * j) : Nat) : Int)) rfl rfl rfl rfl ?_
   refine OA.p (some 29) (.int .i64 ((((64 * j) + 64) : Nat) : Int)) rfl rfl rfl (r_bin rfl rfl rfl (b_add (i64_eq (by omega)))) ?_
   refine OA.p (some 5) (.int .i64 ((((64 * j) + 64) : Nat) : Int)) rfl rfl rfl rfl ?_
   refine OA.nil ?_
   refine ⟨((padded s).size - 64 * (j + 1)), by omega, [(n2, some ⟨[[(W (hs (padded s) (j + 1)).a), (W (hs (padded s) (j + 1)).b), (W (hs (padded s) (j + 1)).c), (W (hs (padded s) (j + 1)).d), (W (hs (padded s) (j + 1)).e)]], 5, 59, true⟩)], (Less.of (fac (mm (fun _ => get_here) (fun _ => get_here)) fan) (gone_of (by simp only [goneP, memP, List.cons_append, List.nil_append, true_or, or_true, true_and, and_true, or_false] <;> omega))), (j + 1), rfl, by omega, ⟨rfl, rfl, rfl, trivial⟩, rfl, (kb1 (by omega)), by omega⟩
  ·
   refine OA.p (some 27) (.bool false) rfl rfl rfl (Eq.trans (r_bin rfl rfl rfl (b_lss rfl)) (dF hc2)) ?_
   refine OA.nil ?_
   intro _
   refine RA.condF rfl ?_
   refine RA.exit env_ok ?_
   intro _
   refine RA.seq hd ?_
   refine RA.region env_ok ?_
   refine OA.p (some 6) (.string (ByteArray.mk #[])) rfl rfl rfl rfl ?_
   refine OA.nil ?_
   intro _
   refine RA.seq hd ?_
   refine RA.seq hd ?_
   refine RA.region env_ok ?_
   refine OA.p (some 7) (.int .i64 0) rfl rfl rfl rfl ?_
   refine OA.nil ?_
   intro _
   refine RA.block ?_
   refine RA.unroll hd ?_
   refine RA.seq hd ?_
   refine RA.seq hd ?_
   refine RA.region env_ok ?_
   refine OA.p (some 37) (.int .i64 0) rfl rfl rfl rfl ?_
   refine OA.p (some 38) (.bool true) rfl rfl rfl (r_bin rfl rfl rfl (b_lss rfl)) ?_
   refine OA.nil ?_
   intro _
   refine RA.condT rfl ?_
   refine RA.skip env_ok ?_
   intro _
   refine RA.seq hd ?_
   refine RA.block ?_
   refine RA.region env_ok ?_
   refine OA.p (some 41) (.string (ByteArray.mk #[])) rfl rfl rfl rfl ?_
   refine OA.p (some 42) (.int .i64 0) rfl rfl rfl rfl ?_
   refine OA.p (some 43) (.pointer (some ⟨n2, 0, some 0⟩)) rfl rfl rfl (r_iaA (l := 0) rfl rfl rfl rfl rfl rfl (by omega) (by omega) (by show 0 + 0 * 1 = 0; omega)) ?_
   refine OA.p (some 44) (W (hs (padded s) j).a) rfl rfl rfl (r_load1 rfl rfl rfl rfl rfl get_here rfl rfl) ?_
   refine OA.p (some 45) (.int .u64 (((hs (padded s) j).a.toNat : Nat) : Int)) rfl rfl rfl (r_cvt rfl rfl rfl rfl rfl ⟨_, rfl⟩ (u64_eq (by have := ((hs (padded s) j).a).isLt; omega))) ?_
   refine OA.callP (dst := (some 46)) (all := [(.int .u64 (((hs (padded s) j).a.toNat : Nat) : Int)), (.int .i64 4)]) (v := (.string (bstr (putL (hs (padded s) j).a.toNat 4)))) (hd.of (by omega) (kb1 (by omega))) rfl rfl rfl rfl rfl rfl rfl rfl (s41 4 (hs (padded s) j).a.toNat (by have := ((hs (padded s) j).a).isLt; omega) (by decide)) ?_
   intro n5 hn5
   refine OA.p (some 47) (.string ((ByteArray.mk #[]) ++ (bstr (putL (hs (padded s) j).a.toNat 4)))) rfl rfl rfl (r_cat rfl rfl rfl (by (try simp only [ByteArray.size_append, bstr_size, size_lit, List.size_toArray, List.length_cons, List.length_nil, List.length_take, List.length_drop, List.length_replicate, putL_len]); try omega)) ?_
   refine OA.p (some 6) (.string ((ByteArray.mk #[]) ++ (bstr (putL (hs (padded s) j).a.toNat 4)))) rfl rfl rfl rfl ?_
   refine OA.nil ?_
   intro _
   refine RA.region env_ok ?_
   refine OA.p (some 39) (.int .i64 0) rfl rfl rfl rfl ?_
   refine OA.p (some 40) (.int .i64 1) rfl rfl rfl (r_bin rfl rfl rfl (b_add (i64_eq (by omega)))) ?_
   refine OA.p (some 7) (.int .i64 1) rfl rfl rfl rfl ?_
   refine OA.nil ?_
   intro _
   refine RA.unroll hd ?_
   refine RA.seq hd ?_
   refine RA.seq hd ?_
   refine RA.region env_ok ?_
   refine OA.p (some 37) (.int .i64 1) rfl rfl rfl rfl ?_
   refine OA.p (some 38) (.bool true) rfl rfl rfl (r_bin rfl rfl rfl (b_lss rfl)) ?_
   refine OA.nil ?_
   intro _
   refine RA.condT rfl ?_
   refine RA.skip env_ok ?_
   intro _
   refine RA.seq hd ?_
   refine RA.block ?_
   refine RA.region env_ok ?_
   refine OA.p (some 41) (.string ((ByteArray.mk #[]) ++ (bstr (putL (hs (padded s) j).a.toNat 4)))) rfl rfl rfl rfl ?_
   refine OA.p (some 42) (.int .i64 1) rfl rfl rfl rfl ?_
   refine OA.p (some 43) (.pointer (some ⟨n2, 0, some 1⟩)) rfl rfl rfl (r_iaA (l := 1) rfl rfl rfl rfl rfl rfl (by omega) (by omega) (by show 0 + 1 * 1 = 1; omega)) ?_
   refine OA.p (some 44) (W (hs (padded s) j).b) rfl rfl rfl (r_load1 rfl rfl rfl rfl rfl get_here rfl rfl) ?_
   refine OA.p (some 45) (.int .u64 (((hs (padded s) j).b.toNat : Nat) : Int)) rfl rfl rfl (r_cvt rfl rfl rfl rfl rfl ⟨_, rfl⟩ (u64_eq (by have := ((hs (padded s) j).b).isLt; omega))) ?_
   refine OA.callP (dst := (some 46)) (all := [(.int .u64 (((hs (padded s) j).b.toNat : Nat) : Int)), (.int .i64 4)]) (v := (.string (bstr (putL (hs (padded s) j).b.toNat 4)))) (hd.of (by omega) (kb1 (by omega))) rfl rfl rfl rfl rfl rfl rfl rfl (s41 4 (hs (padded s) j).b.toNat (by have := ((hs (padded s) j).b).isLt; omega) (by decide)) ?_
   intro n6 hn6
   refine OA.p (some 47) (.string (((ByteArray.mk #[]) ++ (bstr (putL (hs (padded s) j).a.toNat 4))) ++ (bstr (putL (hs (padded s) j).b.toNat 4)))) rfl rfl rfl (r_cat rfl rfl rfl (by (try simp only [ByteArray.size_append, bstr_size, size_lit, List.size_toArray, List.length_cons, List.length_nil, List.length_take, List.length_drop, List.length_replicate, putL_len]); try omega)) ?_
   refine OA.p (some 6) (.string (((ByteArray.mk #[]) ++ (bstr (putL (hs (padded s) j).a.toNat 4))) ++ (bstr (putL (hs (padded s) j).b.toNat 4)))) rfl rfl rfl rfl ?_
   refine OA.nil ?_
   intro _
   refine RA.rebase [(3, (.string (padded s))), (4, (.pointer (some ⟨n2, 0, some 0⟩))), (5, (.int .i64 (((64 * j) : Nat) : Int))), (6, (.string (((ByteArray.mk #[]) ++ (bstr (putL (hs (padded s) j).a.toNat 4))) ++ (bstr (putL (hs (padded s) j).b.toNat 4))))), (7, (.int .i64 1)), (27, (.bool false)), (38, (.bool true))] ⟨rfl, rfl, rfl, rfl, rfl, rfl, rfl, trivial⟩ (fun τr7 => ?_)
   refine RA.region env_ok ?_
   refine OA.p (some 39) (.int .i64 1) rfl rfl rfl rfl ?_
   refine OA.p (some 40) (.int .i64 2) rfl rfl rfl (r_bin rfl rfl rfl (b_add (i64_eq (by omega)))) ?_
   refine OA.p (some 7) (.int .i64 2) rfl rfl rfl rfl ?_
   refine OA.nil ?_
   intro _
   refine RA.unroll hd ?_
   refine RA.seq hd ?_
   refine RA.seq hd ?_
   refine RA.region env_ok ?_
   refine OA.p (some 37) (.int .i64 2) rfl rfl rfl rfl ?_
   refine OA.p (some 38) (.bool true) rfl rfl rfl (r_bin rfl rfl rfl (b_lss rfl)) ?_
   refine OA.nil ?_
   intro _
   refine RA.condT rfl ?_
   refine RA.skip env_ok ?_
   intro _
   refine RA.seq hd ?_
   refine RA.block ?_
   refine RA.region env_ok ?_
   refine OA.p (some 41) (.string (((ByteArray.mk #[]) ++ (bstr (putL (hs (padded s) j).a.toNat 4))) ++ (bstr (putL (hs (padded s) j).b.toNat 4)))) rfl rfl rfl rfl ?_
   refine OA.p (some 42) (.int .i64 2) rfl rfl rfl rfl ?_
   refine OA.p (some 43) (.pointer (some ⟨n2, 0, some 2⟩)) rfl rfl rfl (r_iaA (l := 2) rfl rfl rfl rfl rfl rfl (by omega) (by omega) (by show 0 + 2 * 1 = 2; omega)) ?_
   refine OA.p (some 44) (W (hs (padded s) j).c) rfl rfl rfl (r_load1 rfl rfl rfl rfl rfl get_here rfl rfl) ?_
   refine OA.p (some 45) (.int .u64 (((hs (padded s) j).c.toNat : Nat) : Int)) rfl rfl rfl (r_cvt rfl rfl rfl rfl rfl ⟨_, rfl⟩ (u64_eq (by have := ((hs (padded s) j).c).isLt; omega))) ?_
   refine OA.callP (dst := (some 46)) (all := [(.int .u64 (((hs (padded s) j).c.toNat : Nat) : Int)), (.int .i64 4)]) (v := (.string (bstr (putL (hs (padded s) j).c.toNat 4)))) (hd.of (by omega) (kb1 (by omega))) rfl rfl rfl rfl rfl rfl rfl rfl (s41 4 (hs (padded s) j).c.toNat (by have := ((hs (padded s) j).c).isLt; omega) (by decide)) ?_
   intro n8 hn8
   refine OA.p (some 47) (.string ((((ByteArray.mk #[]) ++ (bstr (putL (hs (padded s) j).a.toNat 4))) ++ (bstr (putL (hs (padded s) j).b.toNat 4))) ++ (bstr (putL (hs (padded s) j).c.toNat 4)))) rfl rfl rfl (r_cat rfl rfl rfl (by (try simp only [ByteArray.size_append, bstr_size, size_lit, List.size_toArray, List.length_cons, List.length_nil, List.length_take, List.length_drop, List.length_replicate, putL_len]); try omega)) ?_
   refine OA.p (some 6) (.string ((((ByteArray.mk #[]) ++ (bstr (putL (hs (padded s) j).a.toNat 4))) ++ (bstr (putL (hs (padded s) j).b.toNat 4))) ++ (bstr (putL (hs (padded s) j).c.toNat 4)))) rfl rfl rfl rfl ?_
   refine OA.nil ?_
   intro _
   refine RA.region env_ok ?_
   refine OA.p (some 39) (.int .i64 2) rfl rfl rfl rfl ?_
   refine OA.p (some 40) (.int .i64 3) rfl rfl rfl (r_bin rfl rfl rfl (b_add (i64_eq (by omega)))) ?_
   refine OA.p (some 7) (.int .i64 3) rfl rfl rfl rfl ?_
   refine OA.nil ?_
   intro _
   refine RA.unroll hd ?_
   refine RA.seq hd ?_
   refine RA.seq hd ?_
   refine RA.region env_ok ?_
   refine OA.p (some 37) (.int .i64 3) rfl rfl rfl rfl ?_
   refine OA.p (some 38) (.bool true) rfl rfl rfl (r_bin rfl rfl rfl (b_lss rfl)) ?_
   refine OA.nil ?_
   intro _
   refine RA.condT rfl ?_
   refine RA.skip env_ok ?_
   intro _
   refine RA.seq hd ?_
   refine RA.block ?_
   refine RA.region env_ok ?_
   refine OA.p (some 41) (.string ((((ByteArray.mk #[]) ++ (bstr (putL (hs (padded s) j).a.toNat 4))) ++ (bstr (putL (hs (padded s) j).b.toNat 4))) ++ (bstr (putL (hs (padded s) j).c.toNat 4)))) rfl rfl rfl rfl ?_
   refine OA.p (some 42) (.int .i64 3) rfl rfl rfl rfl ?_
   refine OA.p (some 43) (.pointer (some ⟨n2, 0, some 3⟩)) rfl rfl rfl (r_iaA (l := 3) rfl rfl rfl rfl rfl rfl (by omega) (by omega) (by show 0 + 3 * 1 = 3; omega)) ?_
   refine OA.p (some 44) (W (hs (padded s) j).d) rfl rfl rfl (r_load1 rfl rfl rfl rfl rfl get_here rfl rfl) ?_
   refine OA.p (some 45) (.int .u64 (((hs (padded s) j).d.toNat : Nat) : Int)) rfl rfl rfl (r_cvt rfl rfl rfl rfl rfl ⟨_, rfl⟩ (u64_eq (by have := ((hs (padded s) j).d).isLt; omega))) ?_
   refine OA.callP (dst := (some 46)) (all := [(.int .u64 (((hs (padded s) j).d.toNat : Nat) : Int)), (.int .i64 4)]) (v := (.string (bstr (putL (hs (padded s) j).d.toNat 4)))) (hd.of (by omega) (kb1 (by omega))) rfl rfl rfl rfl rfl rfl rfl rfl (s41 4 (hs (padded s) j).d.toNat (by have := ((hs (padded s) j).d).isLt; omega) (by decide)) ?_
   intro n9 hn9
   refine OA.p (some 47) (.string (((((ByteArray.mk #[]) ++ (bstr (putL (hs (padded s) j).a.toNat 4))) ++ (bstr (putL (hs (padded s) j).b.toNat 4))) ++ (bstr (putL (hs (padded s) j).c.toNat 4))) ++ (bstr (putL (hs (padded s) j).d.toNat 4)))) rfl rfl rfl (r_cat rfl rfl rfl (by (try simp only [ByteArray.size_append, bstr_size, size_lit, List.size_toArray, List.length_cons, List.length_nil, List.length_take, List.length_drop, List.length_replicate, putL_len]); try omega)) ?_
   refine OA.p (some 6) (.string (((((ByteArray.mk #[]) ++ (bstr (putL (hs (padded s) j).a.toNat 4))) ++ (bstr (putL (hs (padded s) j).b.toNat 4))) ++ (bstr (putL (hs (padded s) j).c.toNat 4))) ++ (bstr (putL (hs (padded s) j).d.toNat 4)))) rfl rfl rfl rfl ?_
   refine OA.nil ?_
   intro _
   refine RA.rebase [(3, (.string (padded s))), (4, (.pointer (some ⟨n2, 0, some 0⟩))), (5, (.int .i64 (((64 * j) : Nat) : Int))), (6, (.string (((((ByteArray.mk #[]) ++ (bstr (putL (hs (padded s) j).a.toNat 4))) ++ (bstr (putL (hs (padded s) j).b.toNat 4))) ++ (bstr (putL (hs (padded s) j).c.toNat 4))) ++ (bstr (putL (hs (padded s) j).d.toNat 4))))), (7, (.int .i64 3)), (27, (.bool false)), (38, (.bool true))] ⟨rfl, rfl, rfl, rfl, rfl, rfl, rfl, trivial⟩ (fun τr10 => ?_)
   refine RA.region env_ok ?_
   refine OA.p (some 39) (.int .i64 3) rfl rfl rfl rfl ?_
   refine OA.p (some 40) (.int .i64 4) rfl rfl rfl (r_bin rfl rfl rfl (b_add (i64_eq (by omega)))) ?_
   refine OA.p (some 7) (.int .i64 4) rfl rfl rfl rfl ?_
   refine OA.nil ?_
   intro _
   refine RA.unroll hd ?_
   refine RA.seq hd ?_
   refine RA.seq hd ?_
   refine RA.region env_ok ?_
   refine OA.p (some 37) (.int .i64 4) rfl rfl rfl rfl ?_
   refine OA.p (some 38) (.bool true) rfl rfl rfl (r_bin rfl rfl rfl (b_lss rfl)) ?_
   refine OA.nil ?_
   intro _
   refine RA.condT rfl ?_
   refine RA.skip env_ok ?_
   intro _
   refine RA.seq hd ?_
   refine RA.block ?_
   refine RA.region env_ok ?_
   refine OA.p (some 41) (.string (((((ByteArray.mk #[]) ++ (bstr (putL (hs (padded s) j).a.toNat 4))) ++ (bstr (putL (hs (padded s) j).b.toNat 4))) ++ (bstr (putL (hs (padded s) j).c.toNat 4))) ++ (bstr (putL (hs (padded s) j).d.toNat 4)))) rfl rfl rfl rfl ?_
   refine OA.p (some 42) (.int .i64 4) rfl rfl rfl rfl ?_
   refine OA.p (some 43) (.pointer (some ⟨n2, 0, some 4⟩)) rfl rfl rfl (r_iaA (l := 4) rfl rfl rfl rfl rfl rfl (by omega) (by omega) (by show 0 + 4 * 1 = 4; omega)) ?_
   refine OA.p (some 44) (W (hs (padded s) j).e) rfl rfl rfl (r_load1 rfl rfl rfl rfl rfl get_here rfl rfl) ?_
   refine OA.p (some 45) (.int .u64 (((hs (padded s) j).e.toNat : Nat) : Int)) rfl rfl rfl (r_cvt rfl rfl rfl rfl rfl ⟨_, rfl⟩ (u64_eq (by have := ((hs (padded s) j).e).isLt; omega))) ?_
   refine OA.callP (dst := (some 46)) (all := [(.int .u64 (((hs (padded s) j).e.toNat : Nat) : Int)), (.int .i64 4)]) (v := (.string (bstr (putL (hs (padded s) j).e.toNat 4)))) (hd.of (by omega) (kb1 (by omega))) rfl rfl rfl rfl rfl rfl rfl rfl (s41 4 (hs (padded s) j).e.toNat (by have := ((hs (padded s) j).e).isLt; omega) (by decide)) ?_
   intro n11 hn11
   refine OA.p (some 47) (.string ((((((ByteArray.mk #[]) ++ (bstr (putL (hs (padded s) j).a.toNat 4))) ++ (bstr (putL (hs (padded s) j).b.toNat 4))) ++ (bstr (putL (hs (padded s) j).c.toNat 4))) ++ (bstr (putL (hs (padded s) j).d.toNat 4))) ++ (bstr (putL (hs (padded s) j).e.toNat 4)))) rfl rfl rfl (r_cat rfl rfl rfl (by (try simp only [ByteArray.size_append, bstr_size, size_lit, List.size_toArray, List.length_cons, List.length_nil, List.length_take, List.length_drop, List.length_replicate, putL_len]); try omega)) ?_
   refine OA.p (some 6) (.string ((((((ByteArray.mk #[]) ++ (bstr (putL (hs (padded s) j).a.toNat 4))) ++ (bstr (putL (hs (padded s) j).b.toNat 4))) ++ (bstr (putL (hs (padded s) j).c.toNat 4))) ++ (bstr (putL (hs (padded s) j).d.toNat 4))) ++ (bstr (putL (hs (padded s) j).e.toNat 4)))) rfl rfl rfl rfl ?_
   refine OA.nil ?_
   intro _
   refine RA.region env_ok ?_
   refine OA.p (some 39) (.int .i64 4) rfl rfl rfl rfl ?_
   refine OA.p (some 40) (.int .i64 5) rfl rfl rfl (r_bin rfl rfl rfl (b_add (i64_eq (by omega)))) ?_
   refine OA.p (some 7) (.int .i64 5) rfl rfl rfl rfl ?_
   refine OA.nil ?_
   intro _
   refine RA.unroll hd ?_
   refine RA.seq hd ?_
   refine RA.seq hd ?_
   refine RA.region env_ok ?_
   refine OA.p (some 37) (.int .i64 5) rfl rfl rfl rfl ?_
   refine OA.p (some 38) (.bool false) rfl rfl rfl (r_bin rfl rfl rfl (b_lss rfl)) ?_
   refine OA.nil ?_
   intro _
   refine RA.condF rfl ?_
   refine RA.exit env_ok ?_
   intro _
   refine RA.seq hd ?_
   refine RA.region env_ok ?_
   refine OA.p (some 48) (.string ((((((ByteArray.mk #[]) ++ (bstr (putL (hs (padded s) j).a.toNat 4))) ++ (bstr (putL (hs (padded s) j).b.toNat 4))) ++ (bstr (putL (hs (padded s) j).c.toNat 4))) ++ (bstr (putL (hs (padded s) j).d.toNat 4))) ++ (bstr (putL (hs (padded s) j).e.toNat 4)))) rfl rfl rfl rfl ?_
   refine OA.p (some 2) (.string ((((((ByteArray.mk #[]) ++ (bstr (putL (hs (padded s) j).a.toNat 4))) ++ (bstr (putL (hs (padded s) j).b.toNat 4))) ++ (bstr (putL (hs (padded s) j).c.toNat 4))) ++ (bstr (putL (hs (padded s) j).d.toNat 4))) ++ (bstr (putL (hs (padded s) j).e.toNat 4)))) rfl rfl rfl rfl ?_
   refine OA.nil ?_
   intro _
   refine RA.ret env_ok ?_
   refine ⟨.inr rfl, [(.string ((((((ByteArray.mk #[]) ++ (bstr (putL (hs (padded s) j).a.toNat 4))) ++ (bstr (putL (hs (padded s) j).b.toNat 4))) ++ (bstr (putL (hs (padded s) j).c.toNat 4))) ++ (bstr (putL (hs (padded s) j).d.toNat 4))) ++ (bstr (putL (hs (padded s) j).e.toNat 4))))], (resL_cons rfl resL_nil), (by rw [one, show j = (padded s).size / 64 from (by omega), putL_4, putL_4, putL_4, putL_4, putL_4, BitVec.ofNat_toNat, BitVec.ofNat_toNat, BitVec.ofNat_toNat, BitVec.ofNat_toNat, BitVec.ofNat_toNat, BitVec.setWidth_eq, BitVec.setWidth_eq, BitVec.setWidth_eq, BitVec.setWidth_eq, BitVec.setWidth_eq, out5_eq]; rfl), (kc1 (by omega))⟩
end Go.Proofs.Ytdnkhdkflemkeaa.Vt
