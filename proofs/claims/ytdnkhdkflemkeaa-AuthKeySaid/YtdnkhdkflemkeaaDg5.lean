/- Dg5: walks through functions of the program, by the calculus; written by a program of this workplace. -/
import Derived.Test.YtdnkhdkflemkeaaDg4
import Derived.Test.YtdnkhdkflemkeaaVm5
namespace Go.Proofs.Ytdnkhdkflemkeaa.Vt
open Go Go.Proofs Go.Proofs.YtdnkhdkflemkeaaV
set_option maxRecDepth 100000
set_option linter.unusedVariables false
set_option linter.unusedSimpArgs false
set_option maxHeartbeats 4000000 in
theorem s15 {σ : Store} (s : ByteArray) (hs0 : s.size < 4294967296)   : PS Try.prog noDen 15 [(.string s)] σ (.string (sha s)) := by
 refine PS.body (E := env) env_ok rfl rfl (by show _ ≤ _; exact of_decide_eq_true (by kernel_rfl)) (fun n hd => ?_)
 refine RA.seq hd ?_
 refine RA.region env_ok ?_
 refine OA.p (some 2) (.string (ByteArray.mk #[])) rfl rfl rfl rfl ?_
 refine OA.nil ?_
 intro _
 refine RA.seq hd ?_
 refine RA.region env_ok ?_
 refine OA.callP (dst := (some 8)) (all := []) (v := (.agg ⟨[(W h0.a), (W h0.b), (W h0.c), (W h0.d), (W h0.e)]⟩)) (hd.up (by omega)) rfl rfl rfl rfl rfl rfl rfl rfl s37 ?_
 intro n1 hn1
 refine OA.op1 (dst := (some 3)) (v := (.pointer (some ⟨n1, 0, some 0⟩))) (n1 := (n1 + 1)) (w := (n1, some ⟨[[(.int .u32 0), (.int .u32 0), (.int .u32 0), (.int .u32 0), (.int .u32 0)]], 5, 60, true⟩)) rfl rfl rfl rfl (by omega) ?_
 refine OA.op1 (dst := none) (v := (.tuple #[])) (n1 := (n1 + 1)) (w := (n1, some ⟨[[(W h0.a), (W h0.b), (W h0.c), (W h0.d), (W h0.e)]], 5, 60, true⟩)) rfl rfl rfl (r_store rfl rfl rfl rfl rfl rfl rfl get_here rfl rfl (Nat.le_of_ble_eq_true rfl) rfl) (by omega) ?_
 refine OA.nil ?_
 intro _
 refine RA.seq hd ?_
 refine RA.par (md := [some [], some [], some [], some [], some [], some [], some [], some [], none, some [], some [], some [], some [], some [], some [], some [], some []]) env_ok (hd.of (by omega) (kb2 (by omega))) (by kernel_rfl) ?_
 refine PQ.pure (dst := (some 9)) (v := (.string s)) rfl rfl rfl noStore (none_ok _ _) rfl ?_
 refine PQ.pure (dst := (some 10)) (v := (.string (s ++ (ByteArray.mk #[128])))) rfl rfl rfl noStore (none_ok _ _) (r_cat rfl rfl rfl (by (try simp only [ByteArray.size_append, bstr_size, size_lit, List.size_toArray, List.length_cons, List.length_nil, List.length_take, List.length_drop, List.length_replicate, be8_len, be4_len]); try omega)) ?_
 refine PQ.pure (dst := (some 11)) (v := (.string s)) rfl rfl rfl noStore (none_ok _ _) rfl ?_
 refine PQ.pure (dst := (some 12)) (v := (.int .i64 ((s.size : Nat) : Int))) rfl rfl rfl noStore (none_ok _ _) rfl ?_
 refine PQ.pure (dst := (some 13)) (v := (.int .i64 (((s.size % 64) : Nat) : Int))) rfl rfl rfl noStore (none_ok _ _) (r_bin rfl rfl rfl (b_remN (a := s.size) (c := 64) (by decide))) ?_
 refine PQ.pure (dst := (some 14)) (v := (.int .i64 (((119 - (s.size % 64)) : Nat) : Int))) rfl rfl rfl noStore (none_ok _ _) (r_bin rfl rfl rfl (b_sub (i64_eq (by omega)))) ?_
 refine PQ.pure (dst := (some 15)) (v := (.int .i64 ((((119 - (s.size % 64)) % 64) : Nat) : Int))) rfl rfl rfl noStore (none_ok _ _) (r_bin rfl rfl rfl (b_remN (a := (119 - (s.size % 64))) (c := 64) (by decide))) ?_
 refine PQ.op (dst := (some 16)) (v := (.slice (some ⟨(n1 + 1), 0, none⟩) ((119 - (s.size % 64)) % 64) 0)) (n1 := (n1 + 2)) (d1 := [((n1 + 1), some ⟨(bc (List.replicate ((119 - (s.size % 64)) % 64) 0)), 1, 5, true⟩)]) rfl rfl rfl noStore (none_ok _ _) (r_makeBytes (K := ((119 - (s.size % 64)) % 64)) rfl rfl rfl rfl rfl rfl rfl rfl rfl (by omega)) (by omega) (kp1 (wr_new (by omega) (by omega))) ?_
 refine PQ.pure (dst := (some 17)) (v := (.string (bstr (((List.replicate ((119 - (s.size % 64)) % 64) 0).drop 0).take ((119 - (s.size % 64)) % 64))))) rfl rfl rfl _ (seen_any (V := [((n1 + 1), some ⟨(bc (List.replicate ((119 - (s.size % 64)) % 64) 0)), 1, 5, true⟩)]) (D := [(n1, some ⟨[[(W h0.a), (W h0.b), (W h0.c), (W h0.d), (W h0.e)]], 5, 60, true⟩), (n1, some ⟨[[(.int .u32 0), (.int .u32 0), (.int .u32 0), (.int .u32 0), (.int .u32 0)]], 5, 60, true⟩)]) (by kernel_rfl)) (r_b2s rfl rfl rfl rfl rfl rfl rfl rfl get_here (by rw [List.length_replicate]; omega)) ?_
 refine PQ.pure (dst := (some 18)) (v := (.string ((s ++ (ByteArray.mk #[128])) ++ (bstr (((List.replicate ((119 - (s.size % 64)) % 64) 0).drop 0).take ((119 - (s.size % 64)) % 64)))))) rfl rfl rfl noStore (none_ok _ _) (r_cat rfl rfl rfl (by (try simp only [ByteArray.size_append, bstr_size, size_lit, List.size_toArray, List.length_cons, List.length_nil, List.length_take, List.length_drop, List.length_replicate, be8_len, be4_len]); try omega)) ?_
 refine PQ.pure (dst := (some 19)) (v := (.string s)) rfl rfl rfl noStore (none_ok _ _) rfl ?_
 refine PQ.pure (dst := (some 20)) (v := (.int .i64 ((s.size : Nat) : Int))) rfl rfl rfl noStore (none_ok _ _) rfl ?_
 refine PQ.pure (dst := (some 21)) (v := (.int .u64 ((s.size : Nat) : Int))) rfl rfl rfl noStore (none_ok _ _) (r_cvt rfl rfl rfl rfl rfl ⟨_, rfl⟩ (u64_eq (by omega))) ?_
 refine PQ.pure (dst := (some 22)) (v := (.int .u64 (((s.size * 8) : Nat) : Int))) rfl rfl rfl noStore (none_ok _ _) (r_bin rfl rfl rfl (b_mul (u64_eq (by omega)))) ?_
 refine PQ.callP (dst := (some 23)) (all := [(.int .u64 (((s.size * 8) : Nat) : Int))]) (v := (.string (bstr (be8 (s.size * 8))))) noStore (dom_none _) rfl rfl rfl rfl rfl rfl rfl rfl (none_ok _ _) (s38 _ (by omega)) ?_
 intro n2 hn2
 refine PQ.pure (dst := (some 24)) (v := (.string (((s ++ (ByteArray.mk #[128])) ++ (bstr (((List.replicate ((119 - (s.size % 64)) % 64) 0).drop 0).take ((119 - (s.size % 64)) % 64)))) ++ (bstr (be8 (s.size * 8)))))) rfl rfl rfl noStore (none_ok _ _) (r_cat rfl rfl rfl (by (try simp only [ByteArray.size_append, bstr_size, size_lit, List.size_toArray, List.length_cons, List.length_nil, List.length_take, List.length_drop, List.length_replicate, be8_len, be4_len]); try omega)) ?_
 refine PQ.pure (dst := (some 4)) (v := (.string (((s ++ (ByteArray.mk #[128])) ++ (bstr (((List.replicate ((119 - (s.size % 64)) % 64) 0).drop 0).take ((119 - (s.size % 64)) % 64)))) ++ (bstr (be8 (s.size * 8)))))) rfl rfl rfl noStore (none_ok _ _) rfl ?_
 refine PQ.done (d := [((n1 + 1), some ⟨(bc (List.replicate ((119 - (s.size % 64)) % 64) 0)), 1, 5, true⟩)]) (by kernel_rfl) ?_
 intro _
 refine RA.seq hd ?_
 refine RA.block ?_
 have hp := padded_size s
 have hp64 := padded_mod s
 refine RA.weaken (D' := [(n1, some ⟨[[(W h0.a), (W h0.b), (W h0.c), (W h0.d), (W h0.e)]], 5, 60, true⟩)]) hd (Less.of (fac (mm (fun _ => get_here) (fun _ => (get_there (by omega) get_here))) fan) (gone_of (by simp only [goneP, memP, List.cons_append, List.nil_append, true_or, or_true, true_and, and_true, or_false] <;> omega))) ?_
 refine RA.loop hd (fun kk_ τ n' D => ∃ j : Nat,  kk_ = ((padded s).size - 64 * j) ∧ n2 ≤ n' ∧ Has τ [(3, (.pointer (some ⟨n1, 0, some 0⟩))), (4, (.string ((padded s).extract (64 * j) (padded s).size)))] ∧ D = [(n1, some ⟨[[(W (hs (padded s) j).a), (W (hs (padded s) j).b), (W (hs (padded s) j).c), (W (hs (padded s) j).d), (W (hs (padded s) j).e)]], 5, 60, true⟩)] ∧ (∀ i ∈ keys D, i < n') ∧ 64 * j ≤ (padded s).size) (((padded s).size - 64 * 0)) ⟨0, rfl, by omega, ⟨rfl, (by show Value.string _ = Value.string _; rw [List.drop_zero, List.take_of_length_le (by rw [List.length_replicate]; omega), Nat.mul_zero, ext_full _ rfl]; rfl), trivial⟩, rfl, (kb1 (by omega)), by omega⟩ ?_
 rintro kn3 τ3 n3 _ ⟨j, rfl, hn3, hHn3, rfl, hKn3, hIn3⟩
 rw [Has.eq hHn3]
 have hKn3_0 : n1 < n3 := hKn3 _ (by simp only [keys, List.map_cons, List.map_nil, List.mem_cons, true_or, or_true])
 simp only [keys, List.map, List.forall_mem_cons, List.mem_cons, List.not_mem_nil, false_imp_iff, implies_true, and_true] at hKn3
 have hsz : ((padded s).extract (64 * j) (padded s).size).size = (padded s).size - 64 * j := size_cut _ _ _ (Nat.le_refl _)
 refine RA.seq hd ?_
 refine RA.seq hd ?_
 refine RA.region env_ok ?_
 refine OA.p (some 25) (.string ((padded s).extract (64 * j) (padded s).size)) rfl rfl rfl rfl ?_
 refine OA.p (some 26) (.int .i64 ((((padded s).extract (64 * j) (padded s).size).size : Nat) : Int)) rfl rfl rfl rfl ?_
 by_cases hc1 : 0 < ((((padded s).extract (64 * j) (padded s).size).size : Nat) : Int)
 ·
  refine OA.p (some 27) (.bool true) rfl rfl rfl (Eq.trans (r_bin rfl rfl rfl (b_gtr rfl)) (dT hc1)) ?_
  refine OA.nil ?_
  intro _
  refine RA.condT rfl ?_
  refine RA.skip env_ok ?_
  intro _
  refine RA.block ?_
  refine RA.seq hd ?_
  refine RA.par (md := [some [n1], some [], some [], some [], none]) env_ok (hd.of (by omega) (kb1 (by omega))) (by kernel_rfl) ?_
  refine PQ.pure (dst := (some 28)) (v := (.agg ⟨[(W (hs (padded s) j).a), (W (hs (padded s) j).b), (W (hs (padded s) j).c), (W (hs (padded s) j).d), (W (hs (padded s) j).e)]⟩)) rfl rfl rfl (app [(n1, some ⟨[[(W (hs (padded s) j).a), (W (hs (padded s) j).b), (W (hs (padded s) j).c), (W (hs (padded s) j).d), (W (hs (padded s) j).e)]], 5, 60, true⟩)] noStore) (seen_one (V := []) (D := [(n1, some ⟨[[(W (hs (padded s) j).a), (W (hs (padded s) j).b), (W (hs (padded s) j).c), (W (hs (padded s) j).d), (W (hs (padded s) j).e)]], 5, 60, true⟩)]) (by kernel_rfl) get_here) (r_loadA rfl rfl rfl rfl get_here rfl rfl rfl) ?_
  refine PQ.pure (dst := (some 29)) (v := (.string ((padded s).extract (64 * j) (padded s).size))) rfl rfl rfl noStore (none_ok _ _) rfl ?_
  refine PQ.pure (dst := (some 30)) (v := (.string (((padded s).extract (64 * j) (padded s).size).extract 0 64))) rfl rfl rfl noStore (none_ok _ _) (r_cut (a := 0) (b := 64) rfl rfl (fun _ => rfl) (fun _ => rfl) rfl rfl rfl rfl (by omega) (by omega) rfl) ?_
  refine PQ.callP (dst := (some 31)) (all := [(.agg ⟨[(W (hs (padded s) j).a), (W (hs (padded s) j).b), (W (hs (padded s) j).c), (W (hs (padded s) j).d), (W (hs (padded s) j).e)]⟩), (.string (((padded s).extract (64 * j) (padded s).size).extract 0 64))]) (v := (.agg ⟨[(W (hs (padded s) (j + 1)).a), (W (hs (padded s) (j + 1)).b), (W (hs (padded s) (j + 1)).c), (W (hs (padded s) (j + 1)).d), (W (hs (padded s) (j + 1)).e)]⟩)) noStore (dom_none _) rfl rfl rfl rfl rfl rfl rfl rfl (none_ok _ _) (s39t (padded s) j (by omega)) ?_
  intro n4 hn4
  refine PQ.op (dst := none) (v := (.tuple #[])) (n1 := n4) (d1 := [(n1, some ⟨[[(W (hs (padded s) (j + 1)).a), (W (hs (padded s) (j + 1)).b), (W (hs (padded s) (j + 1)).c), (W (hs (padded s) (j + 1)).d), (W (hs (padded s) (j + 1)).e)]], 5, 60, true⟩)]) rfl rfl rfl _ (seen_any (V := []) (D := [(n1, some ⟨[[(W (hs (padded s) j).a), (W (hs (padded s) j).b), (W (hs (padded s) j).c), (W (hs (padded s) j).d), (W (hs (padded s) j).e)]], 5, 60, true⟩)]) (by kernel_rfl)) (r_store rfl rfl rfl rfl rfl rfl rfl get_here rfl rfl (Nat.le_of_ble_eq_true rfl) rfl) (by omega) (kp1 (wr_tight (by kernel_rfl) (by omega))) ?_
  refine PQ.done (d := [(n1, some ⟨[[(W (hs (padded s) (j + 1)).a), (W (hs (padded s) (j + 1)).b), (W (hs (padded s) (j + 1)).c), (W (hs (padded s) (j + 1)).d), (W (hs (padded s) (j + 1)).e)]], 5, 60, true⟩)]) (by kernel_rfl) ?_
  intro _
  refine RA.region env_ok ?_
  refine OA.p (some 32) (.string ((padded s).extract (64 * j) (padded s).size)) rfl rfl rfl rfl ?_
  refine OA.p (some 33) (.string (((padded s).extract (64 * j) (padded s).size).extract 64 ((padded s).extract (64 * j) (padded s).size).size)) rfl rfl rfl (r_cut (a := 64) (b := ((padded s).extract (64 * j) (padded s).size).size) rfl rfl (fun _ => rfl) (fun _ => rfl) rfl rfl rfl rfl (by omega) (by omega) rfl) ?_
  refine OA.p (some 4) (.string (((padded s).extract (64 * j) (padded s).size).extract 64 ((padded s).extract (64 * j) (padded s).size).size)) rfl rfl rfl rfl ?_
  refine OA.nil ?_
  refine ⟨((padded s).size - 64 * (j + 1)), by omega, [(n1, some ⟨[[(W (hs (padded s) (j + 1)).a), (W (hs (padded s) (j + 1)).b), (W (hs (padded s) (j + 1)).c), (W (hs (padded s) (j + 1)).d), (W (hs (padded s) (j + 1)).e)]], 5, 60, true⟩)], (Less.of (fac (mm (fun _ => get_here) (fun _ => get_here)) fan) (gone_of (by simp only [goneP, memP, List.cons_append, List.nil_append, true_or, or_true, true_and, and_true, or_false] <;> omega))), (j + 1), rfl, by omega, ⟨rfl, (by show Value.string _ = Value.string _; rw [ext_ext _ _ _ (by omega)]; rfl), trivial⟩, rfl, (kb1 (by omega)), by omega⟩
 ·
  refine OA.p (some 27) (.bool false) rfl rfl rfl (Eq.trans (r_bin rfl rfl rfl (b_gtr rfl)) (dF hc1)) ?_
  refine OA.nil ?_
  intro _
  refine RA.condF rfl ?_
  refine RA.exit env_ok ?_
  intro _
  refine RA.seq hd ?_
  refine RA.region env_ok ?_
  refine OA.p (some 5) (.string (ByteArray.mk #[])) rfl rfl rfl rfl ?_
  refine OA.nil ?_
  intro _
  refine RA.seq hd ?_
  refine RA.seq hd ?_
  refine RA.region env_ok ?_
  refine OA.p (some 34) (.agg ⟨[(W (hs (padded s) j).a), (W (hs (padded s) j).b), (W (hs (padded s) j).c), (W (hs (padded s) j).d), (W (hs (padded s) j).e)]⟩) rfl rfl rfl (r_loadA rfl rfl rfl rfl get_here rfl rfl rfl) ?_
  refine OA.p (some 35) (.int .i64 0) rfl rfl rfl rfl ?_
  refine OA.nil ?_
  intro _
  refine RA.block ?_
  refine RA.unroll hd ?_
  refine RA.seq hd ?_
  refine RA.region env_ok ?_
  refine OA.p (some 36) (.bool true) rfl rfl rfl (r_bin rfl rfl rfl (b_lss rfl)) ?_
  refine OA.nil ?_
  intro _
  refine RA.seq hd ?_
  refine RA.condT rfl ?_
  refine RA.skip env_ok ?_
  intro _
  refine RA.seq hd ?_
  refine RA.block ?_
  refine RA.seq hd ?_
  refine RA.region env_ok ?_
  refine OA.p (some 37) (W (hs (padded s) j).a) rfl rfl rfl (by kernel_rfl) ?_
  refine OA.p (some 7) (W (hs (padded s) j).a) rfl rfl rfl rfl ?_
  refine OA.nil ?_
  intro _
  refine RA.region env_ok ?_
  refine OA.p (some 38) (.string (ByteArray.mk #[])) rfl rfl rfl rfl ?_
  refine OA.p (some 39) (W (hs (padded s) j).a) rfl rfl rfl rfl ?_
  refine OA.callP (dst := (some 40)) (all := [(W (hs (padded s) j).a)]) (v := (.string (bstr (be4 (hs (padded s) j).a)))) (hd.of (by omega) (kb1 (by omega))) rfl rfl rfl rfl rfl rfl rfl rfl (s40 _) ?_
  intro n5 hn5
  refine OA.p (some 41) (.string ((ByteArray.mk #[]) ++ (bstr (be4 (hs (padded s) j).a)))) rfl rfl rfl (r_cat rfl rfl rfl (by (try simp only [ByteArray.size_append, bstr_size, size_lit, List.size_toArray, List.length_cons, List.length_nil, List.length_take, List.length_drop, List.length_replicate, be8_len, be4_len]); try omega)) ?_
  refine OA.p (some 5) (.string ((ByteArray.mk #[]) ++ (bstr (be4 (hs (padded s) j).a)))) rfl rfl rfl rfl ?_
  refine OA.nil ?_
  intro _
  refine RA.region env_ok ?_
  refine OA.p (some 42) (.int .i64 1) rfl rfl rfl (r_bin rfl rfl rfl (b_add (i64_eq (by omega)))) ?_
  refine OA.p (some 35) (.int .i64 1) rfl rfl rfl rfl ?_
  refine OA.nil ?_
  intro _
  refine RA.unroll hd ?_
  refine RA.seq hd ?_
  refine RA.region env_ok ?_
  refine OA.p (some 36) (.bool true) rfl rfl rfl (r_bin rfl rfl rfl (b_lss rfl)) ?_
  refine OA.nil ?_
  intro _
  refine RA.seq hd ?_
  refine RA.condT rfl ?_
  refine RA.skip env_ok ?_
  intro _
  refine RA.seq hd ?_
  refine RA.block ?_
  refine RA.seq hd ?_
  refine RA.region env_ok ?_
  refine OA.p (some 37) (W (hs (padded s) j).b) rfl rfl rfl (by kernel_rfl) ?_
  refine OA.p (some 7) (W (hs (padded s) j).b) rfl rfl rfl rfl ?_
  refine OA.nil ?_
  intro _
  refine RA.region env_ok ?_
  refine OA.p (some 38) (.string ((ByteArray.mk #[]) ++ (bstr (be4 (hs (padded s) j).a)))) rfl rfl rfl rfl ?_
  refine OA.p (some 39) (W (hs (padded s) j).b) rfl rfl rfl rfl ?_
  refine OA.callP (dst := (some 40)) (all := [(W (hs (padded s) j).b)]) (v := (.string (bstr (be4 (hs (padded s) j).b)))) (hd.of (by omega) (kb1 (by omega))) rfl rfl rfl rfl rfl rfl rfl rfl (s40 _) ?_
  intro n6 hn6
  refine OA.p (some 41) (.string (((ByteArray.mk #[]) ++ (bstr (be4 (hs (padded s) j).a))) ++ (bstr (be4 (hs (padded s) j).b)))) rfl rfl rfl (r_cat rfl rfl rfl (by (try simp only [ByteArray.size_append, bstr_size, size_lit, List.size_toArray, List.length_cons, List.length_nil, List.length_take, List.length_drop, List.length_replicate, be8_len, be4_len]); try omega)) ?_
  refine OA.p (some 5) (.string (((ByteArray.mk #[]) ++ (bstr (be4 (hs (padded s) j).a))) ++ (bstr (be4 (hs (padded s) j).b)))) rfl rfl rfl rfl ?_
  refine OA.nil ?_
  intro _
  refine RA.region env_ok ?_
  refine OA.p (some 42) (.int .i64 2) rfl rfl rfl (r_bin rfl rfl rfl (b_add (i64_eq (by omega)))) ?_
  refine OA.p (some 35) (.int .i64 2) rfl rfl rfl rfl ?_
  refine OA.nil ?_
  intro _
  refine RA.unroll hd ?_
  refine RA.seq hd ?_
  refine RA.region env_ok ?_
  refine OA.p (some 36) (.bool true) rfl rfl rfl (r_bin rfl rfl rfl (b_lss rfl)) ?_
  refine OA.nil ?_
  intro _
  refine RA.rebase [(3, (.pointer (some ⟨n1, 0, some 0⟩))), (4, (.string ((padded s).extract (64 * j) (padded s).size))), (5, (.string (((ByteArray.mk #[]) ++ (bstr (be4 (hs (padded s) j).a))) ++ (bstr (be4 (hs (padded s) j).b))))), (7, (W (hs (padded s) j).b)), (27, (.bool false)), (34, (.agg ⟨[(W (hs (padded s) j).a), (W (hs (padded s) j).b), (W (hs (padded s) j).c), (W (hs (padded s) j).d), (W (hs (padded s) j).e)]⟩)), (35, (.int .i64 2)), (36, (.bool true))] ⟨rfl, rfl, rfl, rfl, rfl, rfl, rfl, rfl, trivial⟩ (fun τr7 => ?_)
  refine RA.seq hd ?_
  refine RA.condT rfl ?_
  refine RA.skip env_ok ?_
  intro _
  refine RA.seq hd ?_
  refine RA.block ?_
  refine RA.seq hd ?_
  refine RA.region env_ok ?_
  refine OA.p (some 37) (W (hs (padded s) j).c) rfl rfl rfl (by kernel_rfl) ?_
  refine OA.p (some 7) (W (hs (padded s) j).c) rfl rfl rfl rfl ?_
  refine OA.nil ?_
  intro _
  refine RA.region env_ok ?_
  refine OA.p (some 38) (.string (((ByteArray.mk #[]) ++ (bstr (be4 (hs (padded s) j).a))) ++ (bstr (be4 (hs (padded s) j).b)))) rfl rfl rfl rfl ?_
  refine OA.p (some 39) (W (hs (padded s) j).c) rfl rfl rfl rfl ?_
  refine OA.callP (dst := (some 40)) (all := [(W (hs (padded s) j).c)]) (v := (.string (bstr (be4 (hs (padded s) j).c)))) (hd.of (by omega) (kb1 (by omega))) rfl rfl rfl rfl rfl rfl rfl rfl (s40 _) ?_
  intro n8 hn8
  refine OA.p (some 41) (.string ((((ByteArray.mk #[]) ++ (bstr (be4 (hs (padded s) j).a))) ++ (bstr (be4 (hs (padded s) j).b))) ++ (bstr (be4 (hs (padded s) j).c)))) rfl rfl rfl (r_cat rfl rfl rfl (by (try simp only [ByteArray.size_append, bstr_size, size_lit, List.size_toArray, List.length_cons, List.length_nil, List.length_take, List.length_drop, List.length_replicate, be8_len, be4_len]); try omega)) ?_
  refine OA.p (some 5) (.string ((((ByteArray.mk #[]) ++ (bstr (be4 (hs (padded s) j).a))) ++ (bstr (be4 (hs (padded s) j).b))) ++ (bstr (be4 (hs (padded s) j).c)))) rfl rfl rfl rfl ?_
  refine OA.nil ?_
  intro _
  refine RA.region env_ok ?_
  refine OA.p (some 42) (.int .i64 3) rfl rfl rfl (r_bin rfl rfl rfl (b_add (i64_eq (by omega)))) ?_
  refine OA.p (some 35) (.int .i64 3) rfl rfl rfl rfl ?_
  refine OA.nil ?_
  intro _
  refine RA.unroll hd ?_
  refine RA.seq hd ?_
  refine RA.region env_ok ?_
  refine OA.p (some 36) (.bool true) rfl rfl rfl (r_bin rfl rfl rfl (b_lss rfl)) ?_
  refine OA.nil ?_
  intro _
  refine RA.seq hd ?_
  refine RA.condT rfl ?_
  refine RA.skip env_ok ?_
  intro _
  refine RA.seq hd ?_
  refine RA.block ?_
  refine RA.seq hd ?_
  refine RA.region env_ok ?_
  refine OA.p (some 37) (W (hs (padded s) j).d) rfl rfl rfl (by kernel_rfl) ?_
  refine OA.p (some 7) (W (hs (padded s) j).d) rfl rfl rfl rfl ?_
  refine OA.nil ?_
  intro _
  refine RA.region env_ok ?_
  refine OA.p (some 38) (.string ((((ByteArray.mk #[]) ++ (bstr (be4 (hs (padded s) j).a))) ++ (bstr (be4 (hs (padded s) j).b))) ++ (bstr (be4 (hs (padded s) j).c)))) rfl rfl rfl rfl ?_
  refine OA.p (some 39) (W (hs (padded s) j).d) rfl rfl rfl rfl ?_
  refine OA.callP (dst := (some 40)) (all := [(W (hs (padded s) j).d)]) (v := (.string (bstr (be4 (hs (padded s) j).d)))) (hd.of (by omega) (kb1 (by omega))) rfl rfl rfl rfl rfl rfl rfl rfl (s40 _) ?_
  intro n9 hn9
  refine OA.p (some 41) (.string (((((ByteArray.mk #[]) ++ (bstr (be4 (hs (padded s) j).a))) ++ (bstr (be4 (hs (padded s) j).b))) ++ (bstr (be4 (hs (padded s) j).c))) ++ (bstr (be4 (hs (padded s) j).d)))) rfl rfl rfl (r_cat rfl rfl rfl (by (try simp only [ByteArray.size_append, bstr_size, size_lit, List.size_toArray, List.length_cons, List.length_nil, List.length_take, List.length_drop, List.length_replicate, be8_len, be4_len]); try omega)) ?_
  refine OA.p (some 5) (.string (((((ByteArray.mk #[]) ++ (bstr (be4 (hs (padded s) j).a))) ++ (bstr (be4 (hs (padded s) j).b))) ++ (bstr (be4 (hs (padded s) j).c))) ++ (bstr (be4 (hs (padded s) j).d)))) rfl rfl rfl rfl ?_
  refine OA.nil ?_
  intro _
  refine RA.region env_ok ?_
  refine OA.p (some 42) (.int .i64 4) rfl rfl rfl (r_bin rfl rfl rfl (b_add (i64_eq (by omega)))) ?_
  refine OA.p (some 35) (.int .i64 4) rfl rfl rfl rfl ?_
  refine OA.nil ?_
  intro _
  refine RA.unroll hd ?_
  refine RA.seq hd ?_
  refine RA.region env_ok ?_
  refine OA.p (some 36) (.bool true) rfl rfl rfl (r_bin rfl rfl rfl (b_lss rfl)) ?_
  refine OA.nil ?_
  intro _
  refine RA.seq hd ?_
  refine RA.condT rfl ?_
  refine RA.skip env_ok ?_
  intro _
  refine RA.seq hd ?_
  refine RA.block ?_
  refine RA.seq hd ?_
  refine RA.region env_ok ?_
  refine OA.p (some 37) (W (hs (padded s) j).e) rfl rfl rfl (by kernel_rfl) ?_
  refine OA.p (some 7) (W (hs (padded s) j).e) rfl rfl rfl rfl ?_
  refine OA.nil ?_
  intro _
  refine RA.region env_ok ?_
  refine OA.p (some 38) (.string (((((ByteArray.mk #[]) ++ (bstr (be4 (hs (padded s) j).a))) ++ (bstr (be4 (hs (padded s) j).b))) ++ (bstr (be4 (hs (padded s) j).c))) ++ (bstr (be4 (hs (padded s) j).d)))) rfl rfl rfl rfl ?_
  refine OA.p (some 39) (W (hs (padded s) j).e) rfl rfl rfl rfl ?_
  refine OA.callP (dst := (some 40)) (all := [(W (hs (padded s) j).e)]) (v := (.string (bstr (be4 (hs (padded s) j).e)))) (hd.of (by omega) (kb1 (by omega))) rfl rfl rfl rfl rfl rfl rfl rfl (s40 _) ?_
  intro n10 hn10
  refine OA.p (some 41) (.string ((((((ByteArray.mk #[]) ++ (bstr (be4 (hs (padded s) j).a))) ++ (bstr (be4 (hs (padded s) j).b))) ++ (bstr (be4 (hs (padded s) j).c))) ++ (bstr (be4 (hs (padded s) j).d))) ++ (bstr (be4 (hs (padded s) j).e)))) rfl rfl rfl (r_cat rfl rfl rfl (by (try simp only [ByteArray.size_append, bstr_size, size_lit, List.size_toArray, List.length_cons, List.length_nil, List.length_take, List.length_drop, List.length_replicate, be8_len, be4_len]); try omega)) ?_
  refine OA.p (some 5) (.string ((((((ByteArray.mk #[]) ++ (bstr (be4 (hs (padded s) j).a))) ++ (bstr (be4 (hs (padded s) j).b))) ++ (bstr (be4 (hs (padded s) j).c))) ++ (bstr (be4 (hs (padded s) j).d))) ++ (bstr (be4 (hs (padded s) j).e)))) rfl rfl rfl rfl ?_
  refine OA.nil ?_
  intro _
  refine RA.rebase [(3, (.pointer (some ⟨n1, 0, some 0⟩))), (4, (.string ((padded s).extract (64 * j) (padded s).size))), (5, (.string ((((((ByteArray.mk #[]) ++ (bstr (be4 (hs (padded s) j).a))) ++ (bstr (be4 (hs (padded s) j).b))) ++ (bstr (be4 (hs (padded s) j).c))) ++ (bstr (be4 (hs (padded s) j).d))) ++ (bstr (be4 (hs (padded s) j).e))))), (7, (W (hs (padded s) j).e)), (27, (.bool false)), (34, (.agg ⟨[(W (hs (padded s) j).a), (W (hs (padded s) j).b), (W (hs (padded s) j).c), (W (hs (padded s) j).d), (W (hs (padded s) j).e)]⟩)), (35, (.int .i64 4)), (36, (.bool true))] ⟨rfl, rfl, rfl, rfl, rfl, rfl, rfl, rfl, trivial⟩ (fun τr11 => ?_)
  refine RA.region env_ok ?_
  refine OA.p (some 42) (.int .i64 5) rfl rfl rfl (r_bin rfl rfl rfl (b_add (i64_eq (by omega)))) ?_
  refine OA.p (some 35) (.int .i64 5) rfl rfl rfl rfl ?_
  refine OA.nil ?_
  intro _
  refine RA.unroll hd ?_
  refine RA.seq hd ?_
  refine RA.region env_ok ?_
  refine OA.p (some 36) (.bool false) rfl rfl rfl (r_bin rfl rfl rfl (b_lss rfl)) ?_
  refine OA.nil ?_
  intro _
  refine RA.seq hd ?_
  refine RA.condF rfl ?_
  refine RA.exit env_ok ?_
  intro _
  refine RA.seq hd ?_
  refine RA.region env_ok ?_
  refine OA.p (some 43) (.string ((((((ByteArray.mk #[]) ++ (bstr (be4 (hs (padded s) j).a))) ++ (bstr (be4 (hs (padded s) j).b))) ++ (bstr (be4 (hs (padded s) j).c))) ++ (bstr (be4 (hs (padded s) j).d))) ++ (bstr (be4 (hs (padded s) j).e)))) rfl rfl rfl rfl ?_
  refine OA.p (some 2) (.string ((((((ByteArray.mk #[]) ++ (bstr (be4 (hs (padded s) j).a))) ++ (bstr (be4 (hs (padded s) j).b))) ++ (bstr (be4 (hs (padded s) j).c))) ++ (bstr (be4 (hs (padded s) j).d))) ++ (bstr (be4 (hs (padded s) j).e)))) rfl rfl rfl rfl ?_
  refine OA.nil ?_
  intro _
  refine RA.ret env_ok ?_
  refine ⟨.inr rfl, [(.string ((((((ByteArray.mk #[]) ++ (bstr (be4 (hs (padded s) j).a))) ++ (bstr (be4 (hs (padded s) j).b))) ++ (bstr (be4 (hs (padded s) j).c))) ++ (bstr (be4 (hs (padded s) j).d))) ++ (bstr (be4 (hs (padded s) j).e))))], (resL_cons rfl resL_nil), (by rw [one, show j = (padded s).size / 64 from (by omega), out5_eq]; rfl), (kc1 (by omega))⟩
end Go.Proofs.Ytdnkhdkflemkeaa.Vt
