/- Ac3: walks through functions of the program, by the calculus; written by a program of this workplace. -/
import Derived.Test.YtgajcmanompmcaaAc2
import Derived.Test.YtgajcmanompmcaaVm6
namespace Go.Proofs.Ytgajcmanompmcaa.Vt
open Go Go.Proofs Go.Proofs.YtgajcmanompmcaaV
set_option maxRecDepth 100000
set_option linter.unusedVariables false
set_option linter.unusedSimpArgs false
theorem pL0_len (w : Nat) : (pL w []).length = 4 := by unfold pL fillL; simp [be2_len]
abbrev xAc31 (nx : BitVec 32) (x : BitVec 32) (n4 : Nat) : List Value := [(W (nx + (1#32))), (.int .i64 128), (.int .i64 0), (W x), (.int .i64 0), (.int .i64 0), (.int .u32 0), (.string ByteArray.empty), (.int .u32 0), (.int .u32 0), (.int .i64 0), (.int .i64 0), (.slice (some ⟨(n4 + 1), 0, none⟩) 1 0), (.slice none 0 0), (.slice none 0 0), (.slice none 0 0), (.bool true)]
abbrev xAc32 (nx : BitVec 32) (x : BitVec 32) (n5 : Nat) : List Value := [(W (nx + (1#32))), (.int .i64 128), (.int .i64 0), (W x), (.int .i64 0), (.int .i64 0), (.int .u32 0), (.string ByteArray.empty), (.int .u32 0), (.int .u32 0), (.int .i64 0), (.int .i64 0), (.slice (some ⟨(n5 + 1), 0, none⟩) 1 0), (.slice none 0 0), (.slice none 0 0), (.slice none 0 0), (.bool true)]
abbrev xAc33 (nx : BitVec 32) (x : BitVec 32) (n4 : Nat) : List Value := [(W nx), (.int .i64 128), (.int .i64 0), (W x), (.int .i64 0), (.int .i64 0), (.int .u32 0), (.string ByteArray.empty), (.int .u32 0), (.int .u32 0), (.int .i64 0), (.int .i64 0), (.slice (some ⟨(n4 + 1), 0, none⟩) 1 0), (.slice none 0 0), (.slice none 0 0), (.slice none 0 0), (.bool true)]
abbrev xAc34 (nx : BitVec 32) (x : BitVec 32) (n5 : Nat) : List Value := [(W nx), (.int .i64 128), (.int .i64 0), (W x), (.int .i64 0), (.int .i64 0), (.int .u32 0), (.string ByteArray.empty), (.int .u32 0), (.int .u32 0), (.int .i64 0), (.int .i64 0), (.slice (some ⟨(n5 + 1), 0, none⟩) 1 0), (.slice none 0 0), (.slice none 0 0), (.slice none 0 0), (.bool true)]
abbrev xAc35 (x : BitVec 32) (n4 : Nat) : List Value := [(.int .i64 128), (.int .i64 0), (W x), (.int .i64 0), (.int .i64 0), (.int .u32 0), (.string ByteArray.empty), (.int .u32 0), (.int .u32 0), (.int .i64 0), (.int .i64 0), (.slice (some ⟨(n4 + 1), 0, none⟩) 1 0), (.slice none 0 0), (.slice none 0 0), (.slice none 0 0)]
abbrev xAc36 (x : BitVec 32) (n5 : Nat) : List Value := [(.int .i64 128), (.int .i64 0), (W x), (.int .i64 0), (.int .i64 0), (.int .u32 0), (.string ByteArray.empty), (.int .u32 0), (.int .u32 0), (.int .i64 0), (.int .i64 0), (.slice (some ⟨(n5 + 1), 0, none⟩) 1 0), (.slice none 0 0), (.slice none 0 0), (.slice none 0 0)]
abbrev xAc37 (x : BitVec 32) (n7 : Nat) : List Value := [(.int .i64 193), (.int .i64 0), (W x), (.int .i64 0), (.int .i64 0), (.int .u32 0), (.string ByteArray.empty), (.int .u32 0), (.int .u32 0), (.int .i64 0), (.int .i64 0), (.slice (some ⟨n7, 0, none⟩) 3 0), (.slice none 0 0), (.slice none 0 0), (.slice none 0 0)]
abbrev xAc38 (x : BitVec 32) (k : Nat) : List Value := [(.int .i64 193), (.int .i64 0), (W x), (.int .i64 0), (.int .i64 0), (.int .u32 0), (.string ByteArray.empty), (.int .u32 0), (.int .u32 0), (.int .i64 0), (.int .i64 0), (.slice (some ⟨k, 0, none⟩) 3 0), (.slice none 0 0), (.slice none 0 0), (.slice none 0 0)]
abbrev xAc39 : List Value := [(.int .i64 0), (.int .i64 0), (.int .u32 0), (.int .i64 0), (.int .i64 0), (.int .u32 0), (.string ByteArray.empty), (.int .u32 0), (.int .u32 0), (.int .i64 0), (.int .i64 0), (.slice none 0 0), (.slice none 0 0), (.slice none 0 0), (.slice none 0 0)]
abbrev xAc310 (x : BitVec 32) : List Value := [(.int .i64 128), (.int .i64 0), (W x), (.int .i64 0), (.int .i64 0), (.int .u32 0), (.string ByteArray.empty), (.int .u32 0), (.int .u32 0), (.int .i64 0), (.int .i64 0), (.slice none 0 0), (.slice none 0 0), (.slice none 0 0), (.slice none 0 0)]
theorem aFour {σ : Store} (x : BitVec 32)   : PS Try.prog noDen 42 [(W x)] σ (.string (bstr (be4 x))) := by
 refine PS.body (E := env) env_ok rfl rfl (by show _ ≤ _; exact of_decide_eq_true (by kernel_rfl)) (fun n hd => ?_)
 refine RA.seq hd ?_
 refine RA.region env_ok ?_
 refine OA.p (some 2) (.string (ByteArray.mk #[])) rfl rfl rfl rfl ?_
 refine OA.nil ?_
 intro _
 refine RA.seq hd ?_
 refine RA.region env_ok ?_
 refine OA.p (some 3) (W x) rfl rfl rfl rfl ?_
 refine OA.p (some 4) (.int .u64 ((x.toNat : Nat) : Int)) rfl rfl rfl (r_cvt rfl rfl rfl rfl rfl ⟨_, rfl⟩ (u64_eq (by have := (x).isLt; omega))) ?_
 refine OA.callP (dst := (some 5)) (all := [(.int .u64 ((x.toNat : Nat) : Int)), (.int .i64 4)]) (v := (.string (bstr (be4 x)))) (hd.up (by omega)) rfl rfl rfl rfl rfl rfl rfl rfl (PS.to (sPut 4 x.toNat (by have := x.isLt; omega) (by decide)) (by rw [putL_be4])) ?_
 intro n1 hn1
 refine OA.p (some 2) (.string (bstr (be4 x))) rfl rfl rfl rfl ?_
 refine OA.nil ?_
 intro _
 refine RA.ret env_ok ?_
 refine ⟨.inr rfl, [(.string (bstr (be4 x)))], (resL_cons rfl resL_nil), rfl, (fun i hi => by cases hi)⟩

theorem aKind0 {σ : Store} : PS Try.prog noDen 39 [(.agg ⟨[(.int .i64 0), (.int .u32 0), (.int .u32 0)]⟩)] σ (.agg ⟨[(.int .i64 49153), (.int .u32 0), (.int .u32 0)]⟩) := PS.closedA env_ok rfl (F := 60) (k := 10) (by kernel_rfl) rfl rfl

theorem aKind1 {σ : Store} : PS Try.prog noDen 39 [(.agg ⟨[(.int .i64 1), (.int .u32 0), (.int .u32 0)]⟩)] σ (.agg ⟨[(.int .i64 49154), (.int .u32 0), (.int .u32 0)]⟩) := PS.closedA env_ok rfl (F := 60) (k := 10) (by kernel_rfl) rfl rfl

theorem aKindZ0 {σ : Store} (m : Nat) (h : m = 0) : PS Try.prog noDen 39 [(.agg ⟨[(.int .i64 ((m : Nat) : Int)), (.int .u32 0), (.int .u32 0)]⟩)] σ (.agg ⟨[(.int .i64 49153), (.int .u32 0), (.int .u32 0)]⟩) := by subst h; exact aKind0

theorem aKindZ1 {σ : Store} (m : Nat) (h : m = 1) : PS Try.prog noDen 39 [(.agg ⟨[(.int .i64 ((m : Nat) : Int)), (.int .u32 0), (.int .u32 0)]⟩)] σ (.agg ⟨[(.int .i64 49154), (.int .u32 0), (.int .u32 0)]⟩) := by subst h; exact aKind1

theorem aChunk49153 {n : Nat} {σ : Store} (hd : Dom n σ) (x : BitVec 32)   : CQ Try.prog noDen 38 [(W x), (.agg ⟨[(.int .i64 49153), (.int .u32 0), (.int .u32 0)]⟩), (.int .u32 3), (.int .u32 4)] n σ (fun v n' d => ∃ k, n ≤ k ∧ k < n' ∧ v = (.agg ⟨[(.int .i64 193), (.int .i64 0), (W x), (.int .i64 0), (.int .i64 0), (.int .u32 0), (.string ByteArray.empty), (.int .u32 0), (.int .u32 0), (.int .i64 0), (.int .i64 0), (.slice (some ⟨k, 0, none⟩) 3 0), (.slice none 0 0), (.slice none 0 0), (.slice none 0 0)]⟩) ∧ d = [(k, some ⟨[[(.int .i64 5), (.string (bstr (be4 0#32)))], [(.int .i64 49153), (.string (bstr (be4 x ++ (be2 5 ++ (be2 8 ++ (be4 0#32 ++ []))))))], [(.int .i64 49160), (.string (bstr ((be4 x ++ be4 3#32) ++ be4 4#32)))]], 2, 35, true⟩)]) := by
 refine CQ.body (E := env) env_ok hd rfl rfl (by show _ ≤ _; exact of_decide_eq_true (by kernel_rfl)) ?_
 refine RA.seq hd ?_
 refine RA.region env_ok ?_
 refine OA.op1 (dst := (some 5)) (v := (Pt n 0 0)) (n1 := (n + 1)) (w := (n, some ⟨[[(.int .i64 49153), (.int .u32 0), (.int .u32 0)]], 3, 73, true⟩)) rfl rfl rfl rfl (by omega) ?_
 refine OA.op1 (dst := (some 8)) (v := (.pointer (some ⟨(n + 1), 0, some 0⟩))) (n1 := (n + 2)) (w := ((n + 1), some ⟨[xAc39], 15, 53, true⟩)) rfl rfl rfl rfl (by omega) ?_
 refine OA.nil ?_
 intro _
 refine RA.seq hd ?_
 refine RA.region env_ok ?_
 refine OA.p (some 10) (Pt n 0 1) rfl rfl rfl rfl ?_
 refine OA.p (some 11) (.int .u32 0) rfl rfl rfl (r_load1 rfl rfl rfl rfl rfl (get_there (by omega) get_here) rfl rfl) ?_
 refine OA.callP (dst := (some 12)) (all := [(.int .u32 0)]) (v := (.string (bstr (be4 0#32)))) (hd.of (by omega) (kb2 (by omega))) rfl rfl rfl rfl rfl rfl rfl rfl (aFour 0#32) ?_
 intro n1 hn1
 refine OA.p (some 13) (.agg ⟨[(.int .i64 5), (.string (bstr (be4 0#32)))]⟩) rfl rfl rfl (by kernel_rfl) ?_
 refine OA.op1 (dst := (some 9)) (v := (Pt n1 0 0)) (n1 := (n1 + 1)) (w := (n1, some ⟨[[(.int .i64 0), (.string ByteArray.empty)]], 2, 35, true⟩)) rfl rfl rfl rfl (by omega) ?_
 refine OA.op1 (dst := none) (v := (.tuple #[])) (n1 := (n1 + 1)) (w := (n1, some ⟨[[(.int .i64 5), (.string (bstr (be4 0#32)))]], 2, 35, true⟩)) rfl rfl rfl (r_store rfl rfl rfl rfl rfl rfl rfl get_here rfl rfl (Nat.le_of_ble_eq_true rfl) rfl) (by omega) ?_
 refine OA.nil ?_
 intro _
 refine RA.seq hd ?_
 refine RA.par (md := [some [], none, some [], some [], some [n], some [], none, some [n1], none, some [], some [], some [], none, some [], none, some [], some [], none, some [], some [], some [], some [], none]) env_ok (hd.of (by omega) (kb4 (by omega))) (by kernel_rfl) ?_
 refine PQ.pure (dst := (some 14)) (v := (W x)) rfl rfl rfl noStore (none_ok _ _) rfl ?_
 refine PQ.callP (dst := (some 15)) (all := [(.int .u32 0)]) (v := (.string (bstr (be4 0#32)))) _ (hd.of (by omega) (kb4 (by omega))) rfl rfl rfl rfl rfl rfl rfl rfl (seen_any (V := []) (D := [(n1, some ⟨[[(.int .i64 5), (.string (bstr (be4 0#32)))]], 2, 35, true⟩), (n1, some ⟨[[(.int .i64 0), (.string ByteArray.empty)]], 2, 35, true⟩), ((n + 1), some ⟨[xAc39], 15, 53, true⟩), (n, some ⟨[[(.int .i64 49153), (.int .u32 0), (.int .u32 0)]], 3, 73, true⟩)]) (by kernel_rfl)) (aFour 0#32) ?_
 intro n2 hn2
 refine PQ.pure (dst := (some 16)) (v := (.agg ⟨[(.int .i64 5), (.string (bstr (be4 0#32)))]⟩)) rfl rfl rfl noStore (none_ok _ _) (by kernel_rfl) ?_
 refine PQ.pure (dst := (some 17)) (v := (Pt n 0 0)) rfl rfl rfl noStore (none_ok _ _) rfl ?_
 refine PQ.pure (dst := (some 18)) (v := (.int .i64 49153)) rfl rfl rfl (app [(n, some ⟨[[(.int .i64 49153), (.int .u32 0), (.int .u32 0)]], 3, 73, true⟩)] noStore) (seen_one (V := []) (D := [(n1, some ⟨[[(.int .i64 5), (.string (bstr (be4 0#32)))]], 2, 35, true⟩), (n1, some ⟨[[(.int .i64 0), (.string ByteArray.empty)]], 2, 35, true⟩), ((n + 1), some ⟨[xAc39], 15, 53, true⟩), (n, some ⟨[[(.int .i64 49153), (.int .u32 0), (.int .u32 0)]], 3, 73, true⟩)]) (by kernel_rfl) (gt3 (by omega) get_here)) (r_load1 rfl rfl rfl rfl rfl get_here rfl rfl) ?_
 refine PQ.pure (dst := (some 19)) (v := (W x)) rfl rfl rfl noStore (none_ok _ _) rfl ?_
 refine PQ.callP (dst := (some 20)) (all := [(W x)]) (v := (.string (bstr (be4 x)))) _ (hd.of (by omega) (kb4 (by omega))) rfl rfl rfl rfl rfl rfl rfl rfl (seen_any (V := []) (D := [(n1, some ⟨[[(.int .i64 5), (.string (bstr (be4 0#32)))]], 2, 35, true⟩), (n1, some ⟨[[(.int .i64 0), (.string ByteArray.empty)]], 2, 35, true⟩), ((n + 1), some ⟨[xAc39], 15, 53, true⟩), (n, some ⟨[[(.int .i64 49153), (.int .u32 0), (.int .u32 0)]], 3, 73, true⟩)]) (by kernel_rfl)) (aFour x) ?_
 intro n3 hn3
 refine PQ.pure (dst := (some 21)) (v := (.agg ⟨[(.int .i64 5), (.string (bstr (be4 0#32)))]⟩)) rfl rfl rfl (app [(n1, some ⟨[[(.int .i64 5), (.string (bstr (be4 0#32)))]], 2, 35, true⟩)] noStore) (seen_one (V := []) (D := [(n1, some ⟨[[(.int .i64 5), (.string (bstr (be4 0#32)))]], 2, 35, true⟩), (n1, some ⟨[[(.int .i64 0), (.string ByteArray.empty)]], 2, 35, true⟩), ((n + 1), some ⟨[xAc39], 15, 53, true⟩), (n, some ⟨[[(.int .i64 49153), (.int .u32 0), (.int .u32 0)]], 3, 73, true⟩)]) (by kernel_rfl) get_here) (r_loadA rfl rfl rfl rfl get_here rfl rfl rfl) ?_
 refine PQ.callP (dst := (some 22)) (all := [(.agg ⟨[(.int .i64 5), (.string (bstr (be4 0#32)))]⟩)]) (v := (.string (bstr (be2 5 ++ (be2 8 ++ (be4 0#32 ++ [])))))) _ (hd.of (by omega) (kb4 (by omega))) rfl rfl rfl rfl rfl rfl rfl rfl (seen_any (V := []) (D := [(n1, some ⟨[[(.int .i64 5), (.string (bstr (be4 0#32)))]], 2, 35, true⟩), (n1, some ⟨[[(.int .i64 0), (.string ByteArray.empty)]], 2, 35, true⟩), ((n + 1), some ⟨[xAc39], 15, 53, true⟩), (n, some ⟨[[(.int .i64 49153), (.int .u32 0), (.int .u32 0)]], 3, 73, true⟩)]) (by kernel_rfl)) (PS.to (lR4 5 (be4 0#32) (by decide) (by decide)) rfl) ?_
 intro n4 hn4
 refine PQ.pure (dst := (some 23)) (v := (.string (bstr ((be4 x) ++ (be2 5 ++ (be2 8 ++ (be4 0#32 ++ []))))))) rfl rfl rfl noStore (none_ok _ _) (Eq.trans (r_cat rfl rfl rfl (by simp only [bstr_size, size_lit, List.length_append, be2_len, be4_len, be1_len, List.length_replicate, List.length_cons, List.length_nil, List.size_toArray]; omega)) (by rw [bstr_app] <;> rfl)) ?_
 refine PQ.pure (dst := (some 24)) (v := (.agg ⟨[(.int .i64 49153), (.string (bstr ((be4 x) ++ (be2 5 ++ (be2 8 ++ (be4 0#32 ++ []))))))]⟩)) rfl rfl rfl noStore (none_ok _ _) (by kernel_rfl) ?_
 refine PQ.pure (dst := (some 25)) (v := (W x)) rfl rfl rfl noStore (none_ok _ _) rfl ?_
 refine PQ.callP (dst := (some 26)) (all := [(W x)]) (v := (.string (bstr (be4 x)))) _ (hd.of (by omega) (kb4 (by omega))) rfl rfl rfl rfl rfl rfl rfl rfl (seen_any (V := []) (D := [(n1, some ⟨[[(.int .i64 5), (.string (bstr (be4 0#32)))]], 2, 35, true⟩), (n1, some ⟨[[(.int .i64 0), (.string ByteArray.empty)]], 2, 35, true⟩), ((n + 1), some ⟨[xAc39], 15, 53, true⟩), (n, some ⟨[[(.int .i64 49153), (.int .u32 0), (.int .u32 0)]], 3, 73, true⟩)]) (by kernel_rfl)) (aFour x) ?_
 intro n5 hn5
 refine PQ.pure (dst := (some 27)) (v := (.int .u32 3)) rfl rfl rfl noStore (none_ok _ _) rfl ?_
 refine PQ.callP (dst := (some 28)) (all := [(.int .u32 3)]) (v := (.string (bstr (be4 3#32)))) _ (hd.of (by omega) (kb4 (by omega))) rfl rfl rfl rfl rfl rfl rfl rfl (seen_any (V := []) (D := [(n1, some ⟨[[(.int .i64 5), (.string (bstr (be4 0#32)))]], 2, 35, true⟩), (n1, some ⟨[[(.int .i64 0), (.string ByteArray.empty)]], 2, 35, true⟩), ((n + 1), some ⟨[xAc39], 15, 53, true⟩), (n, some ⟨[[(.int .i64 49153), (.int .u32 0), (.int .u32 0)]], 3, 73, true⟩)]) (by kernel_rfl)) (aFour 3#32) ?_
 intro n6 hn6
 refine PQ.pure (dst := (some 29)) (v := (.string (bstr ((be4 x) ++ (be4 3#32))))) rfl rfl rfl noStore (none_ok _ _) (Eq.trans (r_cat rfl rfl rfl (by simp only [bstr_size, size_lit, List.length_append, be2_len, be4_len, be1_len, List.length_replicate, List.length_cons, List.length_nil, List.size_toArray]; omega)) (by rw [bstr_app] <;> rfl)) ?_
 refine PQ.pure (dst := (some 30)) (v := (.int .u32 4)) rfl rfl rfl noStore (none_ok _ _) rfl ?_
 refine PQ.callP (dst := (some 31)) (all := [(.int .u32 4)]) (v := (.string (bstr (be4 4#32)))) _ (hd.of (by omega) (kb4 (by omega))) rfl rfl rfl rfl rfl rfl rfl rfl (seen_any (V := []) (D := [(n1, some ⟨[[(.int .i64 5), (.string (bstr (be4 0#32)))]], 2, 35, true⟩), (n1, some ⟨[[(.int .i64 0), (.string ByteArray.empty)]], 2, 35, true⟩), ((n + 1), some ⟨[xAc39], 15, 53, true⟩), (n, some ⟨[[(.int .i64 49153), (.int .u32 0), (.int .u32 0)]], 3, 73, true⟩)]) (by kernel_rfl)) (aFour 4#32) ?_
 intro n7 hn7
 refine PQ.pure (dst := (some 32)) (v := (.string (bstr (((be4 x) ++ (be4 3#32)) ++ (be4 4#32))))) rfl rfl rfl noStore (none_ok _ _) (Eq.trans (r_cat rfl rfl rfl (by simp only [bstr_size, size_lit, List.length_append, be2_len, be4_len, be1_len, List.length_replicate, List.length_cons, List.length_nil, List.size_toArray]; omega)) (by rw [bstr_app] <;> rfl)) ?_
 refine PQ.pure (dst := (some 33)) (v := (.agg ⟨[(.int .i64 49160), (.string (bstr (((be4 x) ++ (be4 3#32)) ++ (be4 4#32))))]⟩)) rfl rfl rfl noStore (none_ok _ _) (by kernel_rfl) ?_
 refine PQ.op (dst := (some 34)) (v := (.slice (some ⟨n7, 0, none⟩) 3 0)) (n1 := (n7 + 1)) (d1 := [(n7, some ⟨[[(.int .i64 5), (.string (bstr (be4 0#32)))], [(.int .i64 49153), (.string (bstr ((be4 x) ++ (be2 5 ++ (be2 8 ++ (be4 0#32 ++ []))))))], [(.int .i64 49160), (.string (bstr (((be4 x) ++ (be4 3#32)) ++ (be4 4#32))))]], 2, 35, true⟩)]) rfl rfl rfl noStore (none_ok _ _) (by kernel_rfl) (by omega) (kp1 (wr_new (by omega) (by omega))) ?_
 refine PQ.pure (dst := (some 35)) (v := (.agg ⟨(xAc37 x n7)⟩)) rfl rfl rfl noStore (none_ok _ _) (by kernel_rfl) ?_
 refine PQ.op (dst := none) (v := (.tuple #[])) (n1 := (n7 + 1)) (d1 := [((n + 1), some ⟨[(xAc37 x n7)], 15, 53, true⟩)]) rfl rfl rfl _ (seen_any (V := [(n7, some ⟨[[(.int .i64 5), (.string (bstr (be4 0#32)))], [(.int .i64 49153), (.string (bstr ((be4 x) ++ (be2 5 ++ (be2 8 ++ (be4 0#32 ++ []))))))], [(.int .i64 49160), (.string (bstr (((be4 x) ++ (be4 3#32)) ++ (be4 4#32))))]], 2, 35, true⟩)]) (D := [(n1, some ⟨[[(.int .i64 5), (.string (bstr (be4 0#32)))]], 2, 35, true⟩), (n1, some ⟨[[(.int .i64 0), (.string ByteArray.empty)]], 2, 35, true⟩), ((n + 1), some ⟨[xAc39], 15, 53, true⟩), (n, some ⟨[[(.int .i64 49153), (.int .u32 0), (.int .u32 0)]], 3, 73, true⟩)]) (by kernel_rfl)) (r_store rfl rfl rfl rfl rfl rfl rfl (gt3 (by omega) get_here) rfl rfl (Nat.le_of_ble_eq_true rfl) rfl) (by omega) (kp1 (wr_tight (by kernel_rfl) (by omega))) ?_
 refine PQ.done (d := [((n + 1), some ⟨[(xAc37 x n7)], 15, 53, true⟩), (n7, some ⟨[[(.int .i64 5), (.string (bstr (be4 0#32)))], [(.int .i64 49153), (.string (bstr ((be4 x) ++ (be2 5 ++ (be2 8 ++ (be4 0#32 ++ []))))))], [(.int .i64 49160), (.string (bstr (((be4 x) ++ (be4 3#32)) ++ (be4 4#32))))]], 2, 35, true⟩)]) (by kernel_rfl) ?_
 intro _
 refine RA.weaken (D' := [((n + 1), some ⟨[(xAc37 x n7)], 15, 53, true⟩), (n7, some ⟨[[(.int .i64 5), (.string (bstr (be4 0#32)))], [(.int .i64 49153), (.string (bstr ((be4 x) ++ (be2 5 ++ (be2 8 ++ (be4 0#32 ++ []))))))], [(.int .i64 49160), (.string (bstr (((be4 x) ++ (be4 3#32)) ++ (be4 4#32))))]], 2, 35, true⟩), (n1, some ⟨[[(.int .i64 5), (.string (bstr (be4 0#32)))]], 2, 35, true⟩), (n, some ⟨[[(.int .i64 49153), (.int .u32 0), (.int .u32 0)]], 3, 73, true⟩)]) hd (Less.of (fac (mm (fun _ => get_here) (fun _ => get_here)) (fac (mm (fun _ => (get_there (by omega) get_here)) (fun _ => (get_there (by omega) get_here))) (fac (mm (fun _ => (gt2 (by omega) get_here)) (fun _ => (gt2 (by omega) get_here))) (fac (mm (fun _ => (gt3 (by omega) get_here)) (fun _ => (gt5 (by omega) get_here))) fan)))) (gone_of (by simp only [goneP, memP, List.cons_append, List.nil_append, true_or, or_true, true_and, and_true, or_false] <;> omega))) ?_
 refine RA.rebase [(0, (W x)), (1, (.agg ⟨[(.int .i64 49153), (.int .u32 0), (.int .u32 0)]⟩)), (2, (.int .u32 3)), (3, (.int .u32 4)), (5, (Pt n 0 0)), (8, (.pointer (some ⟨(n + 1), 0, some 0⟩))), (9, (Pt n1 0 0))] ⟨rfl, rfl, rfl, rfl, rfl, rfl, rfl, trivial⟩ (fun τr8 => ?_)
 refine RA.ret env_ok ?_
 refine ⟨.inr rfl, [(.agg ⟨(xAc37 x n7)⟩)], (resL_cons (res_cellA rfl rfl rfl get_here rfl rfl rfl) resL_nil), [(n7, some ⟨[[(.int .i64 5), (.string (bstr (be4 0#32)))], [(.int .i64 49153), (.string (bstr ((be4 x) ++ (be2 5 ++ (be2 8 ++ (be4 0#32 ++ []))))))], [(.int .i64 49160), (.string (bstr (((be4 x) ++ (be4 3#32)) ++ (be4 4#32))))]], 2, 35, true⟩)], (Less.of (fac (mm (fun _ => get_here) (fun _ => (get_there (by omega) get_here))) fan) (gone_of (by simp only [goneP, memP, List.cons_append, List.nil_append, true_or, or_true, true_and, and_true, or_false] <;> omega))), ⟨n7, by omega, by omega, rfl, rfl⟩⟩

theorem aChunk49154 {n : Nat} {σ : Store} (hd : Dom n σ) (x : BitVec 32)   : CQ Try.prog noDen 38 [(W x), (.agg ⟨[(.int .i64 49154), (.int .u32 0), (.int .u32 0)]⟩), (.int .u32 3), (.int .u32 4)] n σ (fun v n' d => ∃ k, n ≤ k ∧ k < n' ∧ v = (.agg ⟨[(.int .i64 193), (.int .i64 0), (W x), (.int .i64 0), (.int .i64 0), (.int .u32 0), (.string ByteArray.empty), (.int .u32 0), (.int .u32 0), (.int .i64 0), (.int .i64 0), (.slice (some ⟨k, 0, none⟩) 3 0), (.slice none 0 0), (.slice none 0 0), (.slice none 0 0)]⟩) ∧ d = [(k, some ⟨[[(.int .i64 5), (.string (bstr (be4 0#32)))], [(.int .i64 49154), (.string (bstr (be4 x ++ (be2 5 ++ (be2 8 ++ (be4 0#32 ++ []))))))], [(.int .i64 49160), (.string (bstr ((be4 x ++ be4 3#32) ++ be4 4#32)))]], 2, 35, true⟩)]) := by
 refine CQ.body (E := env) env_ok hd rfl rfl (by show _ ≤ _; exact of_decide_eq_true (by kernel_rfl)) ?_
 refine RA.seq hd ?_
 refine RA.region env_ok ?_
 refine OA.op1 (dst := (some 5)) (v := (Pt n 0 0)) (n1 := (n + 1)) (w := (n, some ⟨[[(.int .i64 49154), (.int .u32 0), (.int .u32 0)]], 3, 73, true⟩)) rfl rfl rfl rfl (by omega) ?_
 refine OA.op1 (dst := (some 8)) (v := (.pointer (some ⟨(n + 1), 0, some 0⟩))) (n1 := (n + 2)) (w := ((n + 1), some ⟨[xAc39], 15, 53, true⟩)) rfl rfl rfl rfl (by omega) ?_
 refine OA.nil ?_
 intro _
 refine RA.seq hd ?_
 refine RA.region env_ok ?_
 refine OA.p (some 10) (Pt n 0 1) rfl rfl rfl rfl ?_
 refine OA.p (some 11) (.int .u32 0) rfl rfl rfl (r_load1 rfl rfl rfl rfl rfl (get_there (by omega) get_here) rfl rfl) ?_
 refine OA.callP (dst := (some 12)) (all := [(.int .u32 0)]) (v := (.string (bstr (be4 0#32)))) (hd.of (by omega) (kb2 (by omega))) rfl rfl rfl rfl rfl rfl rfl rfl (aFour 0#32) ?_
 intro n1 hn1
 refine OA.p (some 13) (.agg ⟨[(.int .i64 5), (.string (bstr (be4 0#32)))]⟩) rfl rfl rfl (by kernel_rfl) ?_
 refine OA.op1 (dst := (some 9)) (v := (Pt n1 0 0)) (n1 := (n1 + 1)) (w := (n1, some ⟨[[(.int .i64 0), (.string ByteArray.empty)]], 2, 35, true⟩)) rfl rfl rfl rfl (by omega) ?_
 refine OA.op1 (dst := none) (v := (.tuple #[])) (n1 := (n1 + 1)) (w := (n1, some ⟨[[(.int .i64 5), (.string (bstr (be4 0#32)))]], 2, 35, true⟩)) rfl rfl rfl (r_store rfl rfl rfl rfl rfl rfl rfl get_here rfl rfl (Nat.le_of_ble_eq_true rfl) rfl) (by omega) ?_
 refine OA.nil ?_
 intro _
 refine RA.seq hd ?_
 refine RA.par (md := [some [], none, some [], some [], some [n], some [], none, some [n1], none, some [], some [], some [], none, some [], none, some [], some [], none, some [], some [], some [], some [], none]) env_ok (hd.of (by omega) (kb4 (by omega))) (by kernel_rfl) ?_
 refine PQ.pure (dst := (some 14)) (v := (W x)) rfl rfl rfl noStore (none_ok _ _) rfl ?_
 refine PQ.callP (dst := (some 15)) (all := [(.int .u32 0)]) (v := (.string (bstr (be4 0#32)))) _ (hd.of (by omega) (kb4 (by omega))) rfl rfl rfl rfl rfl rfl rfl rfl (seen_any (V := []) (D := [(n1, some ⟨[[(.int .i64 5), (.string (bstr (be4 0#32)))]], 2, 35, true⟩), (n1, some ⟨[[(.int .i64 0), (.string ByteArray.empty)]], 2, 35, true⟩), ((n + 1), some ⟨[xAc39], 15, 53, true⟩), (n, some ⟨[[(.int .i64 49154), (.int .u32 0), (.int .u32 0)]], 3, 73, true⟩)]) (by kernel_rfl)) (aFour 0#32) ?_
 intro n2 hn2
 refine PQ.pure (dst := (some 16)) (v := (.agg ⟨[(.int .i64 5), (.string (bstr (be4 0#32)))]⟩)) rfl rfl rfl noStore (none_ok _ _) (by kernel_rfl) ?_
 refine PQ.pure (dst := (some 17)) (v := (Pt n 0 0)) rfl rfl rfl noStore (none_ok _ _) rfl ?_
 refine PQ.pure (dst := (some 18)) (v := (.int .i64 49154)) rfl rfl rfl (app [(n, some ⟨[[(.int .i64 49154), (.int .u32 0), (.int .u32 0)]], 3, 73, true⟩)] noStore) (seen_one (V := []) (D := [(n1, some ⟨[[(.int .i64 5), (.string (bstr (be4 0#32)))]], 2, 35, true⟩), (n1, some ⟨[[(.int .i64 0), (.string ByteArray.empty)]], 2, 35, true⟩), ((n + 1), some ⟨[xAc39], 15, 53, true⟩), (n, some ⟨[[(.int .i64 49154), (.int .u32 0), (.int .u32 0)]], 3, 73, true⟩)]) (by kernel_rfl) (gt3 (by omega) get_here)) (r_load1 rfl rfl rfl rfl rfl get_here rfl rfl) ?_
 refine PQ.pure (dst := (some 19)) (v := (W x)) rfl rfl rfl noStore (none_ok _ _) rfl ?_
 refine PQ.callP (dst := (some 20)) (all := [(W x)]) (v := (.string (bstr (be4 x)))) _ (hd.of (by omega) (kb4 (by omega))) rfl rfl rfl rfl rfl rfl rfl rfl (seen_any (V := []) (D := [(n1, some ⟨[[(.int .i64 5), (.string (bstr (be4 0#32)))]], 2, 35, true⟩), (n1, some ⟨[[(.int .i64 0), (.string ByteArray.empty)]], 2, 35, true⟩), ((n + 1), some ⟨[xAc39], 15, 53, true⟩), (n, some ⟨[[(.int .i64 49154), (.int .u32 0), (.int .u32 0)]], 3, 73, true⟩)]) (by kernel_rfl)) (aFour x) ?_
 intro n3 hn3
 refine PQ.pure (dst := (some 21)) (v := (.agg ⟨[(.int .i64 5), (.string (bstr (be4 0#32)))]⟩)) rfl rfl rfl (app [(n1, some ⟨[[(.int .i64 5), (.string (bstr (be4 0#32)))]], 2, 35, true⟩)] noStore) (seen_one (V := []) (D := [(n1, some ⟨[[(.int .i64 5), (.string (bstr (be4 0#32)))]], 2, 35, true⟩), (n1, some ⟨[[(.int .i64 0), (.string ByteArray.empty)]], 2, 35, true⟩), ((n + 1), some ⟨[xAc39], 15, 53, true⟩), (n, some ⟨[[(.int .i64 49154), (.int .u32 0), (.int .u32 0)]], 3, 73, true⟩)]) (by kernel_rfl) get_here) (r_loadA rfl rfl rfl rfl get_here rfl rfl rfl) ?_
 refine PQ.callP (dst := (some 22)) (all := [(.agg ⟨[(.int .i64 5), (.string (bstr (be4 0#32)))]⟩)]) (v := (.string (bstr (be2 5 ++ (be2 8 ++ (be4 0#32 ++ [])))))) _ (hd.of (by omega) (kb4 (by omega))) rfl rfl rfl rfl rfl rfl rfl rfl (seen_any (V := []) (D := [(n1, some ⟨[[(.int .i64 5), (.string (bstr (be4 0#32)))]], 2, 35, true⟩), (n1, some ⟨[[(.int .i64 0), (.string ByteArray.empty)]], 2, 35, true⟩), ((n + 1), some ⟨[xAc39], 15, 53, true⟩), (n, some ⟨[[(.int .i64 49154), (.int .u32 0), (.int .u32 0)]], 3, 73, true⟩)]) (by kernel_rfl)) (PS.to (lR4 5 (be4 0#32) (by decide) (by decide)) rfl) ?_
 intro n4 hn4
 refine PQ.pure (dst := (some 23)) (v := (.string (bstr ((be4 x) ++ (be2 5 ++ (be2 8 ++ (be4 0#32 ++ []))))))) rfl rfl rfl noStore (none_ok _ _) (Eq.trans (r_cat rfl rfl rfl (by simp only [bstr_size, size_lit, List.length_append, be2_len, be4_len, be1_len, List.length_replicate, List.length_cons, List.length_nil, List.size_toArray]; omega)) (by rw [bstr_app] <;> rfl)) ?_
 refine PQ.pure (dst := (some 24)) (v := (.agg ⟨[(.int .i64 49154), (.string (bstr ((be4 x) ++ (be2 5 ++ (be2 8 ++ (be4 0#32 ++ []))))))]⟩)) rfl rfl rfl noStore (none_ok _ _) (by kernel_rfl) ?_
 refine PQ.pure (dst := (some 25)) (v := (W x)) rfl rfl rfl noStore (none_ok _ _) rfl ?_
 refine PQ.callP (dst := (some 26)) (all := [(W x)]) (v := (.string (bstr (be4 x)))) _ (hd.of (by omega) (kb4 (by omega))) rfl rfl rfl rfl rfl rfl rfl rfl (seen_any (V := []) (D := [(n1, some ⟨[[(.int .i64 5), (.string (bstr (be4 0#32)))]], 2, 35, true⟩), (n1, some ⟨[[(.int .i64 0), (.string ByteArray.empty)]], 2, 35, true⟩), ((n + 1), some ⟨[xAc39], 15, 53, true⟩), (n, some ⟨[[(.int .i64 49154), (.int .u32 0), (.int .u32 0)]], 3, 73, true⟩)]) (by kernel_rfl)) (aFour x) ?_
 intro n5 hn5
 refine PQ.pure (dst := (some 27)) (v := (.int .u32 3)) rfl rfl rfl noStore (none_ok _ _) rfl ?_
 refine PQ.callP (dst := (some 28)) (all := [(.int .u32 3)]) (v := (.string (bstr (be4 3#32)))) _ (hd.of (by omega) (kb4 (by omega))) rfl rfl rfl rfl rfl rfl rfl rfl (seen_any (V := []) (D := [(n1, some ⟨[[(.int .i64 5), (.string (bstr (be4 0#32)))]], 2, 35, true⟩), (n1, some ⟨[[(.int .i64 0), (.string ByteArray.empty)]], 2, 35, true⟩), ((n + 1), some ⟨[xAc39], 15, 53, true⟩), (n, some ⟨[[(.int .i64 49154), (.int .u32 0), (.int .u32 0)]], 3, 73, true⟩)]) (by kernel_rfl)) (aFour 3#32) ?_
 intro n6 hn6
 refine PQ.pure (dst := (some 29)) (v := (.string (bstr ((be4 x) ++ (be4 3#32))))) rfl rfl rfl noStore (none_ok _ _) (Eq.trans (r_cat rfl rfl rfl (by simp only [bstr_size, size_lit, List.length_append, be2_len, be4_len, be1_len, List.length_replicate, List.length_cons, List.length_nil, List.size_toArray]; omega)) (by rw [bstr_app] <;> rfl)) ?_
 refine PQ.pure (dst := (some 30)) (v := (.int .u32 4)) rfl rfl rfl noStore (none_ok _ _) rfl ?_
 refine PQ.callP (dst := (some 31)) (all := [(.int .u32 4)]) (v := (.string (bstr (be4 4#32)))) _ (hd.of (by omega) (kb4 (by omega))) rfl rfl rfl rfl rfl rfl rfl rfl (seen_any (V := []) (D := [(n1, some ⟨[[(.int .i64 5), (.string (bstr (be4 0#32)))]], 2, 35, true⟩), (n1, some ⟨[[(.int .i64 0), (.string ByteArray.empty)]], 2, 35, true⟩), ((n + 1), some ⟨[xAc39], 15, 53, true⟩), (n, some ⟨[[(.int .i64 49154), (.int .u32 0), (.int .u32 0)]], 3, 73, true⟩)]) (by kernel_rfl)) (aFour 4#32) ?_
 intro n7 hn7
 refine PQ.pure (dst := (some 32)) (v := (.string (bstr (((be4 x) ++ (be4 3#32)) ++ (be4 4#32))))) rfl rfl rfl noStore (none_ok _ _) (Eq.trans (r_cat rfl rfl rfl (by simp only [bstr_size, size_lit, List.length_append, be2_len, be4_len, be1_len, List.length_replicate, List.length_cons, List.length_nil, List.size_toArray]; omega)) (by rw [bstr_app] <;> rfl)) ?_
 refine PQ.pure (dst := (some 33)) (v := (.agg ⟨[(.int .i64 49160), (.string (bstr (((be4 x) ++ (be4 3#32)) ++ (be4 4#32))))]⟩)) rfl rfl rfl noStore (none_ok _ _) (by kernel_rfl) ?_
 refine PQ.op (dst := (some 34)) (v := (.slice (some ⟨n7, 0, none⟩) 3 0)) (n1 := (n7 + 1)) (d1 := [(n7, some ⟨[[(.int .i64 5), (.string (bstr (be4 0#32)))], [(.int .i64 49154), (.string (bstr ((be4 x) ++ (be2 5 ++ (be2 8 ++ (be4 0#32 ++ []))))))], [(.int .i64 49160), (.string (bstr (((be4 x) ++ (be4 3#32)) ++ (be4 4#32))))]], 2, 35, true⟩)]) rfl rfl rfl noStore (none_ok _ _) (by kernel_rfl) (by omega) (kp1 (wr_new (by omega) (by omega))) ?_
 refine PQ.pure (dst := (some 35)) (v := (.agg ⟨(xAc37 x n7)⟩)) rfl rfl rfl noStore (none_ok _ _) (by kernel_rfl) ?_
 refine PQ.op (dst := none) (v := (.tuple #[])) (n1 := (n7 + 1)) (d1 := [((n + 1), some ⟨[(xAc37 x n7)], 15, 53, true⟩)]) rfl rfl rfl _ (seen_any (V := [(n7, some ⟨[[(.int .i64 5), (.string (bstr (be4 0#32)))], [(.int .i64 49154), (.string (bstr ((be4 x) ++ (be2 5 ++ (be2 8 ++ (be4 0#32 ++ []))))))], [(.int .i64 49160), (.string (bstr (((be4 x) ++ (be4 3#32)) ++ (be4 4#32))))]], 2, 35, true⟩)]) (D := [(n1, some ⟨[[(.int .i64 5), (.string (bstr (be4 0#32)))]], 2, 35, true⟩), (n1, some ⟨[[(.int .i64 0), (.string ByteArray.empty)]], 2, 35, true⟩), ((n + 1), some ⟨[xAc39], 15, 53, true⟩), (n, some ⟨[[(.int .i64 49154), (.int .u32 0), (.int .u32 0)]], 3, 73, true⟩)]) (by kernel_rfl)) (r_store rfl rfl rfl rfl rfl rfl rfl (gt3 (by omega) get_here) rfl rfl (Nat.le_of_ble_eq_true rfl) rfl) (by omega) (kp1 (wr_tight (by kernel_rfl) (by omega))) ?_
 refine PQ.done (d := [((n + 1), some ⟨[(xAc37 x n7)], 15, 53, true⟩), (n7, some ⟨[[(.int .i64 5), (.string (bstr (be4 0#32)))], [(.int .i64 49154), (.string (bstr ((be4 x) ++ (be2 5 ++ (be2 8 ++ (be4 0#32 ++ []))))))], [(.int .i64 49160), (.string (bstr (((be4 x) ++ (be4 3#32)) ++ (be4 4#32))))]], 2, 35, true⟩)]) (by kernel_rfl) ?_
 intro _
 refine RA.weaken (D' := [((n + 1), some ⟨[(xAc37 x n7)], 15, 53, true⟩), (n7, some ⟨[[(.int .i64 5), (.string (bstr (be4 0#32)))], [(.int .i64 49154), (.string (bstr ((be4 x) ++ (be2 5 ++ (be2 8 ++ (be4 0#32 ++ []))))))], [(.int .i64 49160), (.string (bstr (((be4 x) ++ (be4 3#32)) ++ (be4 4#32))))]], 2, 35, true⟩), (n1, some ⟨[[(.int .i64 5), (.string (bstr (be4 0#32)))]], 2, 35, true⟩), (n, some ⟨[[(.int .i64 49154), (.int .u32 0), (.int .u32 0)]], 3, 73, true⟩)]) hd (Less.of (fac (mm (fun _ => get_here) (fun _ => get_here)) (fac (mm (fun _ => (get_there (by omega) get_here)) (fun _ => (get_there (by omega) get_here))) (fac (mm (fun _ => (gt2 (by omega) get_here)) (fun _ => (gt2 (by omega) get_here))) (fac (mm (fun _ => (gt3 (by omega) get_here)) (fun _ => (gt5 (by omega) get_here))) fan)))) (gone_of (by simp only [goneP, memP, List.cons_append, List.nil_append, true_or, or_true, true_and, and_true, or_false] <;> omega))) ?_
 refine RA.rebase [(0, (W x)), (1, (.agg ⟨[(.int .i64 49154), (.int .u32 0), (.int .u32 0)]⟩)), (2, (.int .u32 3)), (3, (.int .u32 4)), (5, (Pt n 0 0)), (8, (.pointer (some ⟨(n + 1), 0, some 0⟩))), (9, (Pt n1 0 0))] ⟨rfl, rfl, rfl, rfl, rfl, rfl, rfl, trivial⟩ (fun τr8 => ?_)
 refine RA.ret env_ok ?_
 refine ⟨.inr rfl, [(.agg ⟨(xAc37 x n7)⟩)], (resL_cons (res_cellA rfl rfl rfl get_here rfl rfl rfl) resL_nil), [(n7, some ⟨[[(.int .i64 5), (.string (bstr (be4 0#32)))], [(.int .i64 49154), (.string (bstr ((be4 x) ++ (be2 5 ++ (be2 8 ++ (be4 0#32 ++ []))))))], [(.int .i64 49160), (.string (bstr (((be4 x) ++ (be4 3#32)) ++ (be4 4#32))))]], 2, 35, true⟩)], (Less.of (fac (mm (fun _ => get_here) (fun _ => (get_there (by omega) get_here))) fan) (gone_of (by simp only [goneP, memP, List.cons_append, List.nil_append, true_or, or_true, true_and, and_true, or_false] <;> omega))), ⟨n7, by omega, by omega, rfl, rfl⟩⟩

theorem aAsked49153 {n : Nat} {σ : Store} (hd : Dom n σ) (x : BitVec 32) (k : Nat) (hk : σ k = some ⟨[[(.int .i64 5), (.string (bstr (be4 0#32)))], [(.int .i64 49153), (.string (bstr (be4 x ++ (be2 5 ++ (be2 8 ++ (be4 0#32 ++ []))))))], [(.int .i64 49160), (.string (bstr ((be4 x ++ be4 3#32) ++ be4 4#32)))]], 2, 35, true⟩)  : CQ Try.prog noDen 44 [(.agg ⟨[(.int .i64 193), (.int .i64 0), (W x), (.int .i64 0), (.int .i64 0), (.int .u32 0), (.string ByteArray.empty), (.int .u32 0), (.int .u32 0), (.int .i64 0), (.int .i64 0), (.slice (some ⟨k, 0, none⟩) 3 0), (.slice none 0 0), (.slice none 0 0), (.slice none 0 0)]⟩)] n σ (fun v n' d => ∃ i, n ≤ i ∧ i < n' ∧ v = (.slice (some ⟨i, 0, none⟩) 1 0) ∧ d = [(i, some ⟨[[(.int .i64 49153), (.string (bstr (be4 x ++ (be2 5 ++ (be2 8 ++ (be4 0#32 ++ []))))))]], 2, 35, true⟩)]) := by
 have lhk := hd.lt hk
 refine CQ.body (E := env) env_ok hd rfl rfl (by show _ ≤ _; exact of_decide_eq_true (by kernel_rfl)) ?_
 refine RA.seq hd ?_
 refine RA.region env_ok ?_
 refine OA.op1 (dst := (some 1)) (v := (Pt n 0 0)) (n1 := (n + 1)) (w := (n, some ⟨[(xAc38 x k)], 15, 53, true⟩)) rfl rfl rfl rfl (by omega) ?_
 refine OA.p (some 2) (.slice none 0 0) rfl rfl rfl rfl ?_
 refine OA.nil ?_
 intro _
 refine RA.seq hd ?_
 refine RA.region env_ok ?_
 refine OA.p (some 3) (.slice none 0 0) rfl rfl rfl rfl ?_
 refine OA.nil ?_
 intro _
 refine RA.seq hd ?_
 refine RA.seq hd ?_
 refine RA.region env_ok ?_
 refine OA.p (some 9) (Pt n 0 11) rfl rfl rfl rfl ?_
 refine OA.p (some 10) (.slice (some ⟨k, 0, none⟩) 3 0) rfl rfl rfl (r_load1 rfl rfl rfl rfl rfl get_here rfl rfl) ?_
 refine OA.p (some 11) (.int .i64 3) rfl rfl rfl rfl ?_
 refine OA.p (some 12) (.int .i64 0) rfl rfl rfl rfl ?_
 refine OA.nil ?_
 intro _
 refine RA.block ?_
 refine RA.unroll hd ?_
 refine RA.seq hd ?_
 refine RA.region env_ok ?_
 refine OA.p (some 13) (.bool true) rfl rfl rfl (r_bin rfl rfl rfl (b_lss rfl)) ?_
 refine OA.nil ?_
 intro _
 refine RA.seq hd ?_
 refine RA.condT rfl ?_
 refine RA.skip env_ok ?_
 intro _
 refine RA.seq hd ?_
 refine RA.block ?_
 refine RA.seq hd ?_
 refine RA.region env_ok ?_
 refine OA.p (some 14) (Pt k 0 0) rfl rfl rfl (r_iaS (l := 0) rfl rfl rfl rfl rfl rfl (by omega) (by omega) (get_there (by omega) hk) rfl (by omega)) ?_
 refine OA.p (some 15) (.agg ⟨[(.int .i64 5), (.string (bstr (be4 0#32)))]⟩) rfl rfl rfl (r_loadA rfl rfl rfl rfl (get_there (by omega) hk) rfl rfl rfl) ?_
 refine OA.op1 (dst := (some 5)) (v := (.pointer (some ⟨(n + 1), 0, some 0⟩))) (n1 := (n + 2)) (w := ((n + 1), some ⟨[[(.int .i64 0), (.string ByteArray.empty)]], 2, 35, true⟩)) rfl rfl rfl rfl (by omega) ?_
 refine OA.op1 (dst := none) (v := (.tuple #[])) (n1 := (n + 2)) (w := ((n + 1), some ⟨[[(.int .i64 5), (.string (bstr (be4 0#32)))]], 2, 35, true⟩)) rfl rfl rfl (r_store rfl rfl rfl rfl rfl rfl rfl get_here rfl rfl (Nat.le_of_ble_eq_true rfl) rfl) (by omega) ?_
 refine OA.nil ?_
 intro _
 refine RA.seq hd ?_
 refine RA.region env_ok ?_
 refine OA.p (some 17) (.agg ⟨[(.int .i64 5), (.string (bstr (be4 0#32)))]⟩) rfl rfl rfl (r_loadA rfl rfl rfl rfl get_here rfl rfl rfl) ?_
 refine OA.callP (dst := (some 18)) (all := [(.agg ⟨[(.int .i64 5), (.string (bstr (be4 0#32)))]⟩)]) (v := (.tuple ⟨[(W 0#32), (W 0#32), (.bool false)]⟩)) (hd.of (by omega) (kb3 (by omega))) rfl rfl rfl rfl rfl rfl rfl rfl (cReq5 (bstr (be4 0#32))) ?_
 intro n1 hn1
 refine OA.p (some 16) (.tuple ⟨[(W 0#32), (W 0#32), (.bool false)]⟩) rfl rfl rfl rfl ?_
 refine OA.p (some 19) (W 0#32) rfl rfl rfl rfl ?_
 refine OA.p (some 20) (W 0#32) rfl rfl rfl rfl ?_
 refine OA.p (some 21) (.bool false) rfl rfl rfl rfl ?_
 refine OA.p (some 6) (W 0#32) rfl rfl rfl rfl ?_
 refine OA.p (some 7) (W 0#32) rfl rfl rfl rfl ?_
 refine OA.p (some 8) (.bool false) rfl rfl rfl rfl ?_
 refine OA.nil ?_
 intro _
 refine RA.seq hd ?_
 refine RA.region env_ok ?_
 refine OA.p (some 22) (.bool false) rfl rfl rfl rfl ?_
 refine OA.nil ?_
 intro _
 refine RA.condF rfl ?_
 refine RA.skip env_ok ?_
 intro _
 refine RA.region env_ok ?_
 refine OA.p (some 27) (.int .i64 1) rfl rfl rfl (r_bin rfl rfl rfl (b_add (i64_eq (by omega)))) ?_
 refine OA.p (some 12) (.int .i64 1) rfl rfl rfl rfl ?_
 refine OA.nil ?_
 intro _
 refine RA.unroll hd ?_
 refine RA.seq hd ?_
 refine RA.region env_ok ?_
 refine OA.p (some 13) (.bool true) rfl rfl rfl (r_bin rfl rfl rfl (b_lss rfl)) ?_
 refine OA.nil ?_
 intro _
 refine RA.rebase [(0, (.agg ⟨(xAc38 x k)⟩)), (1, (Pt n 0 0)), (2, (.slice none 0 0)), (3, (.slice none 0 0)), (5, (.pointer (some ⟨(n + 1), 0, some 0⟩))), (8, (.bool false)), (10, (.slice (some ⟨k, 0, none⟩) 3 0)), (11, (.int .i64 3)), (12, (.int .i64 1)), (13, (.bool true)), (22, (.bool false))] ⟨rfl, rfl, rfl, rfl, rfl, rfl, rfl, rfl, rfl, rfl, rfl, trivial⟩ (fun τr2 => ?_)
 refine RA.seq hd ?_
 refine RA.condT rfl ?_
 refine RA.skip env_ok ?_
 intro _
 refine RA.seq hd ?_
 refine RA.block ?_
 refine RA.seq hd ?_
 refine RA.region env_ok ?_
 refine OA.p (some 14) (Pt k 1 0) rfl rfl rfl (r_iaS (l := 1) rfl rfl rfl rfl rfl rfl (by omega) (by omega) (gt3 (by omega) hk) rfl (by omega)) ?_
 refine OA.p (some 15) (.agg ⟨[(.int .i64 49153), (.string (bstr (be4 x ++ (be2 5 ++ (be2 8 ++ (be4 0#32 ++ []))))))]⟩) rfl rfl rfl (r_loadA rfl rfl rfl rfl (gt3 (by omega) hk) rfl rfl rfl) ?_
 refine OA.op1 (dst := (some 5)) (v := (Pt n1 0 0)) (n1 := (n1 + 1)) (w := (n1, some ⟨[[(.int .i64 0), (.string ByteArray.empty)]], 2, 35, true⟩)) rfl rfl rfl rfl (by omega) ?_
 refine OA.op1 (dst := none) (v := (.tuple #[])) (n1 := (n1 + 1)) (w := (n1, some ⟨[[(.int .i64 49153), (.string (bstr (be4 x ++ (be2 5 ++ (be2 8 ++ (be4 0#32 ++ []))))))]], 2, 35, true⟩)) rfl rfl rfl (r_store rfl rfl rfl rfl rfl rfl rfl get_here rfl rfl (Nat.le_of_ble_eq_true rfl) rfl) (by omega) ?_
 refine OA.nil ?_
 intro _
 refine RA.weaken (D' := [(n1, some ⟨[[(.int .i64 49153), (.string (bstr (be4 x ++ (be2 5 ++ (be2 8 ++ (be4 0#32 ++ []))))))]], 2, 35, true⟩), ((n + 1), some ⟨[[(.int .i64 5), (.string (bstr (be4 0#32)))]], 2, 35, true⟩), (n, some ⟨[(xAc38 x k)], 15, 53, true⟩)]) hd (Less.of (fac (mm (fun _ => get_here) (fun _ => get_here)) (fac (mm (fun _ => (get_there (by omega) get_here)) (fun _ => (gt2 (by omega) get_here))) (fac (mm (fun _ => (gt2 (by omega) get_here)) (fun _ => (gt4 (by omega) get_here))) fan))) (gone_of (by simp only [goneP, memP, List.cons_append, List.nil_append, true_or, or_true, true_and, and_true, or_false] <;> omega))) ?_
 refine RA.seq hd ?_
 refine RA.region env_ok ?_
 refine OA.p (some 17) (.agg ⟨[(.int .i64 49153), (.string (bstr (be4 x ++ (be2 5 ++ (be2 8 ++ (be4 0#32 ++ []))))))]⟩) rfl rfl rfl (r_loadA rfl rfl rfl rfl get_here rfl rfl rfl) ?_
 refine OA.callP (dst := (some 18)) (all := [(.agg ⟨[(.int .i64 49153), (.string (bstr (be4 x ++ (be2 5 ++ (be2 8 ++ (be4 0#32 ++ []))))))]⟩)]) (v := (.tuple ⟨[(W x), (W 0#32), (.bool true)]⟩)) (hd.of (by omega) (kb3 (by omega))) rfl rfl rfl rfl rfl rfl rfl rfl (cReq49153 x) ?_
 intro n3 hn3
 refine OA.p (some 16) (.tuple ⟨[(W x), (W 0#32), (.bool true)]⟩) rfl rfl rfl rfl ?_
 refine OA.p (some 19) (W x) rfl rfl rfl rfl ?_
 refine OA.p (some 20) (W 0#32) rfl rfl rfl rfl ?_
 refine OA.p (some 21) (.bool true) rfl rfl rfl rfl ?_
 refine OA.p (some 6) (W x) rfl rfl rfl rfl ?_
 refine OA.p (some 7) (W 0#32) rfl rfl rfl rfl ?_
 refine OA.p (some 8) (.bool true) rfl rfl rfl rfl ?_
 refine OA.nil ?_
 intro _
 refine RA.seq hd ?_
 refine RA.region env_ok ?_
 refine OA.p (some 22) (.bool true) rfl rfl rfl rfl ?_
 refine OA.nil ?_
 intro _
 refine RA.condT rfl ?_
 refine RA.region env_ok ?_
 refine OA.p (some 23) (.slice none 0 0) rfl rfl rfl rfl ?_
 refine OA.p (some 24) (.agg ⟨[(.int .i64 49153), (.string (bstr (be4 x ++ (be2 5 ++ (be2 8 ++ (be4 0#32 ++ []))))))]⟩) rfl rfl rfl (r_loadA rfl rfl rfl rfl get_here rfl rfl rfl) ?_
 refine OA.op1 (dst := (some 25)) (v := (.slice (some ⟨n3, 0, none⟩) 1 0)) (n1 := (n3 + 1)) (w := (n3, some ⟨[[(.int .i64 49153), (.string (bstr (be4 x ++ (be2 5 ++ (be2 8 ++ (be4 0#32 ++ []))))))]], 2, 35, true⟩)) rfl rfl rfl (by kernel_rfl) (by omega) ?_
 refine OA.op1 (dst := (some 26)) (v := (.slice (some ⟨(n3 + 1), 0, none⟩) 1 0)) (n1 := (n3 + 2)) (w := ((n3 + 1), some ⟨[[(.int .i64 49153), (.string (bstr (be4 x ++ (be2 5 ++ (be2 8 ++ (be4 0#32 ++ []))))))]], 2, 35, true⟩)) rfl rfl rfl (r_append0 rfl rfl rfl rfl rfl rfl rfl rfl rfl rfl (by decide) get_here (of_decide_eq_true (by kernel_rfl))) (by omega) ?_
 refine OA.p (some 3) (.slice (some ⟨(n3 + 1), 0, none⟩) 1 0) rfl rfl rfl rfl ?_
 refine OA.nil ?_
 intro _
 refine RA.region env_ok ?_
 refine OA.p (some 27) (.int .i64 2) rfl rfl rfl (r_bin rfl rfl rfl (b_add (i64_eq (by omega)))) ?_
 refine OA.p (some 12) (.int .i64 2) rfl rfl rfl rfl ?_
 refine OA.nil ?_
 intro _
 refine RA.unroll hd ?_
 refine RA.seq hd ?_
 refine RA.region env_ok ?_
 refine OA.p (some 13) (.bool true) rfl rfl rfl (r_bin rfl rfl rfl (b_lss rfl)) ?_
 refine OA.nil ?_
 intro _
 refine RA.seq hd ?_
 refine RA.condT rfl ?_
 refine RA.skip env_ok ?_
 intro _
 refine RA.seq hd ?_
 refine RA.block ?_
 refine RA.seq hd ?_
 refine RA.region env_ok ?_
 refine OA.p (some 14) (Pt k 2 0) rfl rfl rfl (r_iaS (l := 2) rfl rfl rfl rfl rfl rfl (by omega) (by omega) (gt5 (by omega) hk) rfl (by omega)) ?_
 refine OA.p (some 15) (.agg ⟨[(.int .i64 49160), (.string (bstr ((be4 x ++ be4 3#32) ++ be4 4#32)))]⟩) rfl rfl rfl (r_loadA rfl rfl rfl rfl (gt5 (by omega) hk) rfl rfl rfl) ?_
 refine OA.op1 (dst := (some 5)) (v := (.pointer (some ⟨(n3 + 2), 0, some 0⟩))) (n1 := (n3 + 3)) (w := ((n3 + 2), some ⟨[[(.int .i64 0), (.string ByteArray.empty)]], 2, 35, true⟩)) rfl rfl rfl rfl (by omega) ?_
 refine OA.op1 (dst := none) (v := (.tuple #[])) (n1 := (n3 + 3)) (w := ((n3 + 2), some ⟨[[(.int .i64 49160), (.string (bstr ((be4 x ++ be4 3#32) ++ be4 4#32)))]], 2, 35, true⟩)) rfl rfl rfl (r_store rfl rfl rfl rfl rfl rfl rfl get_here rfl rfl (Nat.le_of_ble_eq_true rfl) rfl) (by omega) ?_
 refine OA.nil ?_
 intro _
 refine RA.weaken (D' := [((n3 + 2), some ⟨[[(.int .i64 49160), (.string (bstr ((be4 x ++ be4 3#32) ++ be4 4#32)))]], 2, 35, true⟩), ((n3 + 1), some ⟨[[(.int .i64 49153), (.string (bstr (be4 x ++ (be2 5 ++ (be2 8 ++ (be4 0#32 ++ []))))))]], 2, 35, true⟩), (n3, some ⟨[[(.int .i64 49153), (.string (bstr (be4 x ++ (be2 5 ++ (be2 8 ++ (be4 0#32 ++ []))))))]], 2, 35, true⟩), (n1, some ⟨[[(.int .i64 49153), (.string (bstr (be4 x ++ (be2 5 ++ (be2 8 ++ (be4 0#32 ++ []))))))]], 2, 35, true⟩), ((n + 1), some ⟨[[(.int .i64 5), (.string (bstr (be4 0#32)))]], 2, 35, true⟩), (n, some ⟨[(xAc38 x k)], 15, 53, true⟩)]) hd (Less.of (fac (mm (fun _ => get_here) (fun _ => get_here)) (fac (mm (fun _ => (get_there (by omega) get_here)) (fun _ => (gt2 (by omega) get_here))) (fac (mm (fun _ => (gt2 (by omega) get_here)) (fun _ => (gt3 (by omega) get_here))) (fac (mm (fun _ => (gt3 (by omega) get_here)) (fun _ => (gt4 (by omega) get_here))) (fac (mm (fun _ => (gt4 (by omega) get_here)) (fun _ => (gt5 (by omega) get_here))) (fac (mm (fun _ => (gt5 (by omega) get_here)) (fun _ => (gt6 (by omega) get_here))) fan)))))) (gone_of (by simp only [goneP, memP, List.cons_append, List.nil_append, true_or, or_true, true_and, and_true, or_false] <;> omega))) ?_
 refine RA.rebase [(0, (.agg ⟨(xAc38 x k)⟩)), (1, (Pt n 0 0)), (2, (.slice none 0 0)), (3, (.slice (some ⟨(n3 + 1), 0, none⟩) 1 0)), (5, (.pointer (some ⟨(n3 + 2), 0, some 0⟩))), (8, (.bool true)), (10, (.slice (some ⟨k, 0, none⟩) 3 0)), (11, (.int .i64 3)), (12, (.int .i64 2)), (13, (.bool true)), (22, (.bool true))] ⟨rfl, rfl, rfl, rfl, rfl, rfl, rfl, rfl, rfl, rfl, rfl, trivial⟩ (fun τr4 => ?_)
 refine RA.seq hd ?_
 refine RA.region env_ok ?_
 refine OA.p (some 17) (.agg ⟨[(.int .i64 49160), (.string (bstr ((be4 x ++ be4 3#32) ++ be4 4#32)))]⟩) rfl rfl rfl (r_loadA rfl rfl rfl rfl get_here rfl rfl rfl) ?_
 refine OA.callP (dst := (some 18)) (all := [(.agg ⟨[(.int .i64 49160), (.string (bstr ((be4 x ++ be4 3#32) ++ be4 4#32)))]⟩)]) (v := (.tuple ⟨[(W 0#32), (W 0#32), (.bool false)]⟩)) (hd.of (by omega) (kb6 (by omega))) rfl rfl rfl rfl rfl rfl rfl rfl (cReq49160 (bstr ((be4 x ++ be4 3#32) ++ be4 4#32))) ?_
 intro n5 hn5
 refine OA.p (some 16) (.tuple ⟨[(W 0#32), (W 0#32), (.bool false)]⟩) rfl rfl rfl rfl ?_
 refine OA.p (some 19) (W 0#32) rfl rfl rfl rfl ?_
 refine OA.p (some 20) (W 0#32) rfl rfl rfl rfl ?_
 refine OA.p (some 21) (.bool false) rfl rfl rfl rfl ?_
 refine OA.p (some 6) (W 0#32) rfl rfl rfl rfl ?_
 refine OA.p (some 7) (W 0#32) rfl rfl rfl rfl ?_
 refine OA.p (some 8) (.bool false) rfl rfl rfl rfl ?_
 refine OA.nil ?_
 intro _
 refine RA.seq hd ?_
 refine RA.region env_ok ?_
 refine OA.p (some 22) (.bool false) rfl rfl rfl rfl ?_
 refine OA.nil ?_
 intro _
 refine RA.condF rfl ?_
 refine RA.skip env_ok ?_
 intro _
 refine RA.region env_ok ?_
 refine OA.p (some 27) (.int .i64 3) rfl rfl rfl (r_bin rfl rfl rfl (b_add (i64_eq (by omega)))) ?_
 refine OA.p (some 12) (.int .i64 3) rfl rfl rfl rfl ?_
 refine OA.nil ?_
 intro _
 refine RA.unroll hd ?_
 refine RA.seq hd ?_
 refine RA.region env_ok ?_
 refine OA.p (some 13) (.bool false) rfl rfl rfl (r_bin rfl rfl rfl (b_lss rfl)) ?_
 refine OA.nil ?_
 intro _
 refine RA.seq hd ?_
 refine RA.condF rfl ?_
 refine RA.exit env_ok ?_
 intro _
 refine RA.seq hd ?_
 refine RA.region env_ok ?_
 refine OA.p (some 28) (.slice (some ⟨(n3 + 1), 0, none⟩) 1 0) rfl rfl rfl rfl ?_
 refine OA.p (some 2) (.slice (some ⟨(n3 + 1), 0, none⟩) 1 0) rfl rfl rfl rfl ?_
 refine OA.nil ?_
 intro _
 refine RA.ret env_ok ?_
 refine ⟨.inr rfl, [(.slice (some ⟨(n3 + 1), 0, none⟩) 1 0)], (resL_cons rfl resL_nil), [((n3 + 1), some ⟨[[(.int .i64 49153), (.string (bstr (be4 x ++ (be2 5 ++ (be2 8 ++ (be4 0#32 ++ []))))))]], 2, 35, true⟩)], (Less.of (fac (mm (fun _ => get_here) (fun _ => (get_there (by omega) get_here))) fan) (gone_of (by simp only [goneP, memP, List.cons_append, List.nil_append, true_or, or_true, true_and, and_true, or_false] <;> omega))), ⟨(n3 + 1), by omega, by omega, rfl, rfl⟩⟩

theorem aAsked49154 {n : Nat} {σ : Store} (hd : Dom n σ) (x : BitVec 32) (k : Nat) (hk : σ k = some ⟨[[(.int .i64 5), (.string (bstr (be4 0#32)))], [(.int .i64 49154), (.string (bstr (be4 x ++ (be2 5 ++ (be2 8 ++ (be4 0#32 ++ []))))))], [(.int .i64 49160), (.string (bstr ((be4 x ++ be4 3#32) ++ be4 4#32)))]], 2, 35, true⟩)  : CQ Try.prog noDen 44 [(.agg ⟨[(.int .i64 193), (.int .i64 0), (W x), (.int .i64 0), (.int .i64 0), (.int .u32 0), (.string ByteArray.empty), (.int .u32 0), (.int .u32 0), (.int .i64 0), (.int .i64 0), (.slice (some ⟨k, 0, none⟩) 3 0), (.slice none 0 0), (.slice none 0 0), (.slice none 0 0)]⟩)] n σ (fun v n' d => ∃ i, n ≤ i ∧ i < n' ∧ v = (.slice (some ⟨i, 0, none⟩) 1 0) ∧ d = [(i, some ⟨[[(.int .i64 49154), (.string (bstr (be4 x ++ (be2 5 ++ (be2 8 ++ (be4 0#32 ++ []))))))]], 2, 35, true⟩)]) := by
 have lhk := hd.lt hk
 refine CQ.body (E := env) env_ok hd rfl rfl (by show _ ≤ _; exact of_decide_eq_true (by kernel_rfl)) ?_
 refine RA.seq hd ?_
 refine RA.region env_ok ?_
 refine OA.op1 (dst := (some 1)) (v := (Pt n 0 0)) (n1 := (n + 1)) (w := (n, some ⟨[(xAc38 x k)], 15, 53, true⟩)) rfl rfl rfl rfl (by omega) ?_
 refine OA.p (some 2) (.slice none 0 0) rfl rfl rfl rfl ?_
 refine OA.nil ?_
 intro _
 refine RA.seq hd ?_
 refine RA.region env_ok ?_
 refine OA.p (some 3) (.slice none 0 0) rfl rfl rfl rfl ?_
 refine OA.nil ?_
 intro _
 refine RA.seq hd ?_
 refine RA.seq hd ?_
 refine RA.region env_ok ?_
 refine OA.p (some 9) (Pt n 0 11) rfl rfl rfl rfl ?_
 refine OA.p (some 10) (.slice (some ⟨k, 0, none⟩) 3 0) rfl rfl rfl (r_load1 rfl rfl rfl rfl rfl get_here rfl rfl) ?_
 refine OA.p (some 11) (.int .i64 3) rfl rfl rfl rfl ?_
 refine OA.p (some 12) (.int .i64 0) rfl rfl rfl rfl ?_
 refine OA.nil ?_
 intro _
 refine RA.block ?_
 refine RA.unroll hd ?_
 refine RA.seq hd ?_
 refine RA.region env_ok ?_
 refine OA.p (some 13) (.bool true) rfl rfl rfl (r_bin rfl rfl rfl (b_lss rfl)) ?_
 refine OA.nil ?_
 intro _
 refine RA.seq hd ?_
 refine RA.condT rfl ?_
 refine RA.skip env_ok ?_
 intro _
 refine RA.seq hd ?_
 refine RA.block ?_
 refine RA.seq hd ?_
 refine RA.region env_ok ?_
 refine OA.p (some 14) (Pt k 0 0) rfl rfl rfl (r_iaS (l := 0) rfl rfl rfl rfl rfl rfl (by omega) (by omega) (get_there (by omega) hk) rfl (by omega)) ?_
 refine OA.p (some 15) (.agg ⟨[(.int .i64 5), (.string (bstr (be4 0#32)))]⟩) rfl rfl rfl (r_loadA rfl rfl rfl rfl (get_there (by omega) hk) rfl rfl rfl) ?_
 refine OA.op1 (dst := (some 5)) (v := (.pointer (some ⟨(n + 1), 0, some 0⟩))) (n1 := (n + 2)) (w := ((n + 1), some ⟨[[(.int .i64 0), (.string ByteArray.empty)]], 2, 35, true⟩)) rfl rfl rfl rfl (by omega) ?_
 refine OA.op1 (dst := none) (v := (.tuple #[])) (n1 := (n + 2)) (w := ((n + 1), some ⟨[[(.int .i64 5), (.string (bstr (be4 0#32)))]], 2, 35, true⟩)) rfl rfl rfl (r_store rfl rfl rfl rfl rfl rfl rfl get_here rfl rfl (Nat.le_of_ble_eq_true rfl) rfl) (by omega) ?_
 refine OA.nil ?_
 intro _
 refine RA.seq hd ?_
 refine RA.region env_ok ?_
 refine OA.p (some 17) (.agg ⟨[(.int .i64 5), (.string (bstr (be4 0#32)))]⟩) rfl rfl rfl (r_loadA rfl rfl rfl rfl get_here rfl rfl rfl) ?_
 refine OA.callP (dst := (some 18)) (all := [(.agg ⟨[(.int .i64 5), (.string (bstr (be4 0#32)))]⟩)]) (v := (.tuple ⟨[(W 0#32), (W 0#32), (.bool false)]⟩)) (hd.of (by omega) (kb3 (by omega))) rfl rfl rfl rfl rfl rfl rfl rfl (cReq5 (bstr (be4 0#32))) ?_
 intro n1 hn1
 refine OA.p (some 16) (.tuple ⟨[(W 0#32), (W 0#32), (.bool false)]⟩) rfl rfl rfl rfl ?_
 refine OA.p (some 19) (W 0#32) rfl rfl rfl rfl ?_
 refine OA.p (some 20) (W 0#32) rfl rfl rfl rfl ?_
 refine OA.p (some 21) (.bool false) rfl rfl rfl rfl ?_
 refine OA.p (some 6) (W 0#32) rfl rfl rfl rfl ?_
 refine OA.p (some 7) (W 0#32) rfl rfl rfl rfl ?_
 refine OA.p (some 8) (.bool false) rfl rfl rfl rfl ?_
 refine OA.nil ?_
 intro _
 refine RA.seq hd ?_
 refine RA.region env_ok ?_
 refine OA.p (some 22) (.bool false) rfl rfl rfl rfl ?_
 refine OA.nil ?_
 intro _
 refine RA.condF rfl ?_
 refine RA.skip env_ok ?_
 intro _
 refine RA.region env_ok ?_
 refine OA.p (some 27) (.int .i64 1) rfl rfl rfl (r_bin rfl rfl rfl (b_add (i64_eq (by omega)))) ?_
 refine OA.p (some 12) (.int .i64 1) rfl rfl rfl rfl ?_
 refine OA.nil ?_
 intro _
 refine RA.unroll hd ?_
 refine RA.seq hd ?_
 refine RA.region env_ok ?_
 refine OA.p (some 13) (.bool true) rfl rfl rfl (r_bin rfl rfl rfl (b_lss rfl)) ?_
 refine OA.nil ?_
 intro _
 refine RA.rebase [(0, (.agg ⟨(xAc38 x k)⟩)), (1, (Pt n 0 0)), (2, (.slice none 0 0)), (3, (.slice none 0 0)), (5, (.pointer (some ⟨(n + 1), 0, some 0⟩))), (8, (.bool false)), (10, (.slice (some ⟨k, 0, none⟩) 3 0)), (11, (.int .i64 3)), (12, (.int .i64 1)), (13, (.bool true)), (22, (.bool false))] ⟨rfl, rfl, rfl, rfl, rfl, rfl, rfl, rfl, rfl, rfl, rfl, trivial⟩ (fun τr2 => ?_)
 refine RA.seq hd ?_
 refine RA.condT rfl ?_
 refine RA.skip env_ok ?_
 intro _
 refine RA.seq hd ?_
 refine RA.block ?_
 refine RA.seq hd ?_
 refine RA.region env_ok ?_
 refine OA.p (some 14) (Pt k 1 0) rfl rfl rfl (r_iaS (l := 1) rfl rfl rfl rfl rfl rfl (by omega) (by omega) (gt3 (by omega) hk) rfl (by omega)) ?_
 refine OA.p (some 15) (.agg ⟨[(.int .i64 49154), (.string (bstr (be4 x ++ (be2 5 ++ (be2 8 ++ (be4 0#32 ++ []))))))]⟩) rfl rfl rfl (r_loadA rfl rfl rfl rfl (gt3 (by omega) hk) rfl rfl rfl) ?_
 refine OA.op1 (dst := (some 5)) (v := (Pt n1 0 0)) (n1 := (n1 + 1)) (w := (n1, some ⟨[[(.int .i64 0), (.string ByteArray.empty)]], 2, 35, true⟩)) rfl rfl rfl rfl (by omega) ?_
 refine OA.op1 (dst := none) (v := (.tuple #[])) (n1 := (n1 + 1)) (w := (n1, some ⟨[[(.int .i64 49154), (.string (bstr (be4 x ++ (be2 5 ++ (be2 8 ++ (be4 0#32 ++ []))))))]], 2, 35, true⟩)) rfl rfl rfl (r_store rfl rfl rfl rfl rfl rfl rfl get_here rfl rfl (Nat.le_of_ble_eq_true rfl) rfl) (by omega) ?_
 refine OA.nil ?_
 intro _
 refine RA.weaken (D' := [(n1, some ⟨[[(.int .i64 49154), (.string (bstr (be4 x ++ (be2 5 ++ (be2 8 ++ (be4 0#32 ++ []))))))]], 2, 35, true⟩), ((n + 1), some ⟨[[(.int .i64 5), (.string (bstr (be4 0#32)))]], 2, 35, true⟩), (n, some ⟨[(xAc38 x k)], 15, 53, true⟩)]) hd (Less.of (fac (mm (fun _ => get_here) (fun _ => get_here)) (fac (mm (fun _ => (get_there (by omega) get_here)) (fun _ => (gt2 (by omega) get_here))) (fac (mm (fun _ => (gt2 (by omega) get_here)) (fun _ => (gt4 (by omega) get_here))) fan))) (gone_of (by simp only [goneP, memP, List.cons_append, List.nil_append, true_or, or_true, true_and, and_true, or_false] <;> omega))) ?_
 refine RA.seq hd ?_
 refine RA.region env_ok ?_
 refine OA.p (some 17) (.agg ⟨[(.int .i64 49154), (.string (bstr (be4 x ++ (be2 5 ++ (be2 8 ++ (be4 0#32 ++ []))))))]⟩) rfl rfl rfl (r_loadA rfl rfl rfl rfl get_here rfl rfl rfl) ?_
 refine OA.callP (dst := (some 18)) (all := [(.agg ⟨[(.int .i64 49154), (.string (bstr (be4 x ++ (be2 5 ++ (be2 8 ++ (be4 0#32 ++ []))))))]⟩)]) (v := (.tuple ⟨[(W x), (W 0#32), (.bool true)]⟩)) (hd.of (by omega) (kb3 (by omega))) rfl rfl rfl rfl rfl rfl rfl rfl (cReq49154 x) ?_
 intro n3 hn3
 refine OA.p (some 16) (.tuple ⟨[(W x), (W 0#32), (.bool true)]⟩) rfl rfl rfl rfl ?_
 refine OA.p (some 19) (W x) rfl rfl rfl rfl ?_
 refine OA.p (some 20) (W 0#32) rfl rfl rfl rfl ?_
 refine OA.p (some 21) (.bool true) rfl rfl rfl rfl ?_
 refine OA.p (some 6) (W x) rfl rfl rfl rfl ?_
 refine OA.p (some 7) (W 0#32) rfl rfl rfl rfl ?_
 refine OA.p (some 8) (.bool true) rfl rfl rfl rfl ?_
 refine OA.nil ?_
 intro _
 refine RA.seq hd ?_
 refine RA.region env_ok ?_
 refine OA.p (some 22) (.bool true) rfl rfl rfl rfl ?_
 refine OA.nil ?_
 intro _
 refine RA.condT rfl ?_
 refine RA.region env_ok ?_
 refine OA.p (some 23) (.slice none 0 0) rfl rfl rfl rfl ?_
 refine OA.p (some 24) (.agg ⟨[(.int .i64 49154), (.string (bstr (be4 x ++ (be2 5 ++ (be2 8 ++ (be4 0#32 ++ []))))))]⟩) rfl rfl rfl (r_loadA rfl rfl rfl rfl get_here rfl rfl rfl) ?_
 refine OA.op1 (dst := (some 25)) (v := (.slice (some ⟨n3, 0, none⟩) 1 0)) (n1 := (n3 + 1)) (w := (n3, some ⟨[[(.int .i64 49154), (.string (bstr (be4 x ++ (be2 5 ++ (be2 8 ++ (be4 0#32 ++ []))))))]], 2, 35, true⟩)) rfl rfl rfl (by kernel_rfl) (by omega) ?_
 refine OA.op1 (dst := (some 26)) (v := (.slice (some ⟨(n3 + 1), 0, none⟩) 1 0)) (n1 := (n3 + 2)) (w := ((n3 + 1), some ⟨[[(.int .i64 49154), (.string (bstr (be4 x ++ (be2 5 ++ (be2 8 ++ (be4 0#32 ++ []))))))]], 2, 35, true⟩)) rfl rfl rfl (r_append0 rfl rfl rfl rfl rfl rfl rfl rfl rfl rfl (by decide) get_here (of_decide_eq_true (by kernel_rfl))) (by omega) ?_
 refine OA.p (some 3) (.slice (some ⟨(n3 + 1), 0, none⟩) 1 0) rfl rfl rfl rfl ?_
 refine OA.nil ?_
 intro _
 refine RA.region env_ok ?_
 refine OA.p (some 27) (.int .i64 2) rfl rfl rfl (r_bin rfl rfl rfl (b_add (i64_eq (by omega)))) ?_
 refine OA.p (some 12) (.int .i64 2) rfl rfl rfl rfl ?_
 refine OA.nil ?_
 intro _
 refine RA.unroll hd ?_
 refine RA.seq hd ?_
 refine RA.region env_ok ?_
 refine OA.p (some 13) (.bool true) rfl rfl rfl (r_bin rfl rfl rfl (b_lss rfl)) ?_
 refine OA.nil ?_
 intro _
 refine RA.seq hd ?_
 refine RA.condT rfl ?_
 refine RA.skip env_ok ?_
 intro _
 refine RA.seq hd ?_
 refine RA.block ?_
 refine RA.seq hd ?_
 refine RA.region env_ok ?_
 refine OA.p (some 14) (Pt k 2 0) rfl rfl rfl (r_iaS (l := 2) rfl rfl rfl rfl rfl rfl (by omega) (by omega) (gt5 (by omega) hk) rfl (by omega)) ?_
 refine OA.p (some 15) (.agg ⟨[(.int .i64 49160), (.string (bstr ((be4 x ++ be4 3#32) ++ be4 4#32)))]⟩) rfl rfl rfl (r_loadA rfl rfl rfl rfl (gt5 (by omega) hk) rfl rfl rfl) ?_
 refine OA.op1 (dst := (some 5)) (v := (.pointer (some ⟨(n3 + 2), 0, some 0⟩))) (n1 := (n3 + 3)) (w := ((n3 + 2), some ⟨[[(.int .i64 0), (.string ByteArray.empty)]], 2, 35, true⟩)) rfl rfl rfl rfl (by omega) ?_
 refine OA.op1 (dst := none) (v := (.tuple #[])) (n1 := (n3 + 3)) (w := ((n3 + 2), some ⟨[[(.int .i64 49160), (.string (bstr ((be4 x ++ be4 3#32) ++ be4 4#32)))]], 2, 35, true⟩)) rfl rfl rfl (r_store rfl rfl rfl rfl rfl rfl rfl get_here rfl rfl (Nat.le_of_ble_eq_true rfl) rfl) (by omega) ?_
 refine OA.nil ?_
 intro _
 refine RA.weaken (D' := [((n3 + 2), some ⟨[[(.int .i64 49160), (.string (bstr ((be4 x ++ be4 3#32) ++ be4 4#32)))]], 2, 35, true⟩), ((n3 + 1), some ⟨[[(.int .i64 49154), (.string (bstr (be4 x ++ (be2 5 ++ (be2 8 ++ (be4 0#32 ++ []))))))]], 2, 35, true⟩), (n3, some ⟨[[(.int .i64 49154), (.string (bstr (be4 x ++ (be2 5 ++ (be2 8 ++ (be4 0#32 ++ []))))))]], 2, 35, true⟩), (n1, some ⟨[[(.int .i64 49154), (.string (bstr (be4 x ++ (be2 5 ++ (be2 8 ++ (be4 0#32 ++ []))))))]], 2, 35, true⟩), ((n + 1), some ⟨[[(.int .i64 5), (.string (bstr (be4 0#32)))]], 2, 35, true⟩), (n, some ⟨[(xAc38 x k)], 15, 53, true⟩)]) hd (Less.of (fac (mm (fun _ => get_here) (fun _ => get_here)) (fac (mm (fun _ => (get_there (by omega) get_here)) (fun _ => (gt2 (by omega) get_here))) (fac (mm (fun _ => (gt2 (by omega) get_here)) (fun _ => (gt3 (by omega) get_here))) (fac (mm (fun _ => (gt3 (by omega) get_here)) (fun _ => (gt4 (by omega) get_here))) (fac (mm (fun _ => (gt4 (by omega) get_here)) (fun _ => (gt5 (by omega) get_here))) (fac (mm (fun _ => (gt5 (by omega) get_here)) (fun _ => (gt6 (by omega) get_here))) fan)))))) (gone_of (by simp only [goneP, memP, List.cons_append, List.nil_append, true_or, or_true, true_and, and_true, or_false] <;> omega))) ?_
 refine RA.rebase [(0, (.agg ⟨(xAc38 x k)⟩)), (1, (Pt n 0 0)), (2, (.slice none 0 0)), (3, (.slice (some ⟨(n3 + 1), 0, none⟩) 1 0)), (5, (.pointer (some ⟨(n3 + 2), 0, some 0⟩))), (8, (.bool true)), (10, (.slice (some ⟨k, 0, none⟩) 3 0)), (11, (.int .i64 3)), (12, (.int .i64 2)), (13, (.bool true)), (22, (.bool true))] ⟨rfl, rfl, rfl, rfl, rfl, rfl, rfl, rfl, rfl, rfl, rfl, trivial⟩ (fun τr4 => ?_)
 refine RA.seq hd ?_
 refine RA.region env_ok ?_
 refine OA.p (some 17) (.agg ⟨[(.int .i64 49160), (.string (bstr ((be4 x ++ be4 3#32) ++ be4 4#32)))]⟩) rfl rfl rfl (r_loadA rfl rfl rfl rfl get_here rfl rfl rfl) ?_
 refine OA.callP (dst := (some 18)) (all := [(.agg ⟨[(.int .i64 49160), (.string (bstr ((be4 x ++ be4 3#32) ++ be4 4#32)))]⟩)]) (v := (.tuple ⟨[(W 0#32), (W 0#32), (.bool false)]⟩)) (hd.of (by omega) (kb6 (by omega))) rfl rfl rfl rfl rfl rfl rfl rfl (cReq49160 (bstr ((be4 x ++ be4 3#32) ++ be4 4#32))) ?_
 intro n5 hn5
 refine OA.p (some 16) (.tuple ⟨[(W 0#32), (W 0#32), (.bool false)]⟩) rfl rfl rfl rfl ?_
 refine OA.p (some 19) (W 0#32) rfl rfl rfl rfl ?_
 refine OA.p (some 20) (W 0#32) rfl rfl rfl rfl ?_
 refine OA.p (some 21) (.bool false) rfl rfl rfl rfl ?_
 refine OA.p (some 6) (W 0#32) rfl rfl rfl rfl ?_
 refine OA.p (some 7) (W 0#32) rfl rfl rfl rfl ?_
 refine OA.p (some 8) (.bool false) rfl rfl rfl rfl ?_
 refine OA.nil ?_
 intro _
 refine RA.seq hd ?_
 refine RA.region env_ok ?_
 refine OA.p (some 22) (.bool false) rfl rfl rfl rfl ?_
 refine OA.nil ?_
 intro _
 refine RA.condF rfl ?_
 refine RA.skip env_ok ?_
 intro _
 refine RA.region env_ok ?_
 refine OA.p (some 27) (.int .i64 3) rfl rfl rfl (r_bin rfl rfl rfl (b_add (i64_eq (by omega)))) ?_
 refine OA.p (some 12) (.int .i64 3) rfl rfl rfl rfl ?_
 refine OA.nil ?_
 intro _
 refine RA.unroll hd ?_
 refine RA.seq hd ?_
 refine RA.region env_ok ?_
 refine OA.p (some 13) (.bool false) rfl rfl rfl (r_bin rfl rfl rfl (b_lss rfl)) ?_
 refine OA.nil ?_
 intro _
 refine RA.seq hd ?_
 refine RA.condF rfl ?_
 refine RA.exit env_ok ?_
 intro _
 refine RA.seq hd ?_
 refine RA.region env_ok ?_
 refine OA.p (some 28) (.slice (some ⟨(n3 + 1), 0, none⟩) 1 0) rfl rfl rfl rfl ?_
 refine OA.p (some 2) (.slice (some ⟨(n3 + 1), 0, none⟩) 1 0) rfl rfl rfl rfl ?_
 refine OA.nil ?_
 intro _
 refine RA.ret env_ok ?_
 refine ⟨.inr rfl, [(.slice (some ⟨(n3 + 1), 0, none⟩) 1 0)], (resL_cons rfl resL_nil), [((n3 + 1), some ⟨[[(.int .i64 49154), (.string (bstr (be4 x ++ (be2 5 ++ (be2 8 ++ (be4 0#32 ++ []))))))]], 2, 35, true⟩)], (Less.of (fac (mm (fun _ => get_here) (fun _ => (get_there (by omega) get_here))) fan) (gone_of (by simp only [goneP, memP, List.cons_append, List.nil_append, true_or, or_true, true_and, and_true, or_false] <;> omega))), ⟨(n3 + 1), by omega, by omega, rfl, rfl⟩⟩

theorem aAns0 {σ : Store} (x : BitVec 32)   : PS Try.prog noDen 72 [(W x), (.string (ByteArray.mk #[]))] σ (.agg ⟨[(.int .i64 49157), (.string (bstr (be4 x)))]⟩) := by
 refine PS.body (E := env) env_ok rfl rfl (by show _ ≤ _; exact of_decide_eq_true (by kernel_rfl)) (fun n hd => ?_)
 refine RA.seq hd ?_
 refine RA.region env_ok ?_
 refine OA.op1 (dst := (some 4)) (v := (Pt n 0 0)) (n1 := (n + 1)) (w := (n, some ⟨[[(.int .i64 0), (.string ByteArray.empty)]], 2, 35, true⟩)) rfl rfl rfl rfl (by omega) ?_
 refine OA.nil ?_
 intro _
 refine RA.seq hd ?_
 refine RA.seq hd ?_
 refine RA.region env_ok ?_
 refine OA.p (some 5) (.string (ByteArray.mk #[])) rfl rfl rfl rfl ?_
 refine OA.p (some 6) (.bool true) rfl rfl rfl (by kernel_rfl) ?_
 refine OA.nil ?_
 intro _
 refine RA.condT rfl ?_
 refine RA.seq hd ?_
 refine RA.region env_ok ?_
 refine OA.p (some 7) (W x) rfl rfl rfl rfl ?_
 refine OA.callP (dst := (some 8)) (all := [(W x)]) (v := (.string (bstr (be4 x)))) (hd.of (by omega) (kb1 (by omega))) rfl rfl rfl rfl rfl rfl rfl rfl (sU32 _) ?_
 intro n1 hn1
 refine OA.p (some 9) (.agg ⟨[(.int .i64 49157), (.string (bstr (be4 x)))]⟩) rfl rfl rfl (by kernel_rfl) ?_
 refine OA.op1 (dst := none) (v := (.tuple #[])) (n1 := n1) (w := (n, some ⟨[[(.int .i64 49157), (.string (bstr (be4 x)))]], 2, 35, true⟩)) rfl rfl rfl (r_store rfl rfl rfl rfl rfl rfl rfl get_here rfl rfl (Nat.le_of_ble_eq_true rfl) rfl) (by omega) ?_
 refine OA.nil ?_
 intro _
 refine RA.ret env_ok ?_
 refine ⟨.inr rfl, [(.agg ⟨[(.int .i64 49157), (.string (bstr (be4 x)))]⟩)], (resL_cons (res_cellA rfl rfl rfl get_here rfl rfl rfl) resL_nil), rfl, (kc2 (by omega))⟩

theorem aAns1 {σ : Store} (x : BitVec 32) (l : List UInt8) (hl : l.length = 4)   : PS Try.prog noDen 72 [(W x), (.string (bstr l))] σ (.agg ⟨[(.int .i64 49155), (.string (bstr (be4 x ++ l)))]⟩) := by
 have hne : ¬ (bstr l = ByteArray.mk #[]) := fun h => by have := congrArg ByteArray.size h; rw [bstr_size, hl] at this; cases this
 refine PS.body (E := env) env_ok rfl rfl (by show _ ≤ _; exact of_decide_eq_true (by kernel_rfl)) (fun n hd => ?_)
 refine RA.seq hd ?_
 refine RA.region env_ok ?_
 refine OA.op1 (dst := (some 4)) (v := (Pt n 0 0)) (n1 := (n + 1)) (w := (n, some ⟨[[(.int .i64 0), (.string ByteArray.empty)]], 2, 35, true⟩)) rfl rfl rfl rfl (by omega) ?_
 refine OA.nil ?_
 intro _
 refine RA.seq hd ?_
 refine RA.seq hd ?_
 refine RA.region env_ok ?_
 refine OA.p (some 5) (.string (bstr l)) rfl rfl rfl rfl ?_
 have hc1 : ¬ ((bstr l) = (ByteArray.mk #[])) := fun hdd => by exfalso; exact hne hdd
 refine OA.p (some 6) (.bool false) rfl rfl rfl (Eq.trans (r_eqlS rfl rfl rfl) (dF hc1)) ?_
 refine OA.nil ?_
 intro _
 refine RA.condF rfl ?_
 refine RA.skip env_ok ?_
 intro _
 refine RA.seq hd ?_
 refine RA.region env_ok ?_
 refine OA.p (some 10) (W x) rfl rfl rfl rfl ?_
 refine OA.callP (dst := (some 11)) (all := [(W x)]) (v := (.string (bstr (be4 x)))) (hd.of (by omega) (kb1 (by omega))) rfl rfl rfl rfl rfl rfl rfl rfl (sU32 _) ?_
 intro n1 hn1
 refine OA.p (some 12) (.string (bstr l)) rfl rfl rfl rfl ?_
 refine OA.p (some 13) (.string (bstr ((be4 x) ++ l))) rfl rfl rfl (Eq.trans (r_cat rfl rfl rfl (by simp only [bstr_size, size_lit, List.length_append, be2_len, be4_len, be1_len, List.length_replicate, List.length_cons, List.length_nil, List.size_toArray]; omega)) (by rw [bstr_app] <;> rfl)) ?_
 refine OA.p (some 14) (.agg ⟨[(.int .i64 49155), (.string (bstr ((be4 x) ++ l)))]⟩) rfl rfl rfl (by kernel_rfl) ?_
 refine OA.op1 (dst := none) (v := (.tuple #[])) (n1 := n1) (w := (n, some ⟨[[(.int .i64 49155), (.string (bstr ((be4 x) ++ l)))]], 2, 35, true⟩)) rfl rfl rfl (r_store rfl rfl rfl rfl rfl rfl rfl get_here rfl rfl (Nat.le_of_ble_eq_true rfl) rfl) (by omega) ?_
 refine OA.nil ?_
 intro _
 refine RA.ret env_ok ?_
 refine ⟨.inr rfl, [(.agg ⟨[(.int .i64 49155), (.string (bstr ((be4 x) ++ l)))]⟩)], (resL_cons (res_cellA rfl rfl rfl get_here rfl rfl rfl) resL_nil), rfl, (kc2 (by omega))⟩

theorem aGive491530F {n : Nat} {σ : Store} (hd : Dom n σ) (x nx  : BitVec 32) (b k j  : Nat)  (hb : σ b = some ⟨[[(W nx), (.int .i64 0), (.int .i64 0), (.int .u32 0), (.int .i64 0), (.int .i64 0), (.int .u32 0), (.string ByteArray.empty), (.int .u32 0), (.int .u32 0), (.int .i64 0), (.int .i64 0), (.slice none 0 0), (.slice none 0 0), (.slice none 0 0), (.slice none 0 0), (.bool false)]], 17, 103, true⟩) (hk : σ k = some ⟨[[(.int .i64 5), (.string (bstr (be4 0#32)))], [(.int .i64 49153), (.string (bstr (be4 x ++ (be2 5 ++ (be2 8 ++ (be4 0#32 ++ []))))))], [(.int .i64 49160), (.string (bstr ((be4 x ++ be4 3#32) ++ be4 4#32)))]], 2, 35, true⟩) (hj : σ j = some ⟨[[(.int .i64 0)]], 1, 3, true⟩)  : CQ Try.prog noDen 41 [(Pt b 0 0), (.agg ⟨[(.int .i64 193), (.int .i64 0), (W x), (.int .i64 0), (.int .i64 0), (.int .u32 0), (.string ByteArray.empty), (.int .u32 0), (.int .u32 0), (.int .i64 0), (.int .i64 0), (.slice (some ⟨k, 0, none⟩) 3 0), (.slice none 0 0), (.slice none 0 0), (.slice none 0 0)]⟩), (.slice (some ⟨j, 0, none⟩) 1 0)] n σ (fun v n' d => ∃ i, n ≤ i ∧ i < n' ∧ v = (.agg ⟨[(.int .i64 128), (.int .i64 0), (W x), (.int .i64 0), (.int .i64 0), (.int .u32 0), (.string ByteArray.empty), (.int .u32 0), (.int .u32 0), (.int .i64 0), (.int .i64 0), (.slice (some ⟨i, 0, none⟩) 1 0), (.slice none 0 0), (.slice none 0 0), (.slice none 0 0)]⟩) ∧ d = [(b, some ⟨[[(W (nx + 1#32)), (.int .i64 128), (.int .i64 0), (W x), (.int .i64 0), (.int .i64 0), (.int .u32 0), (.string ByteArray.empty), (.int .u32 0), (.int .u32 0), (.int .i64 0), (.int .i64 0), (.slice (some ⟨i, 0, none⟩) 1 0), (.slice none 0 0), (.slice none 0 0), (.slice none 0 0), (.bool true)]], 17, 103, true⟩), (i, some ⟨[[(.int .i64 49157), (.string (bstr (be4 x)))]], 2, 35, true⟩)]) := by
 have lhb := hd.lt hb
 have lhk := hd.lt hk
 have lhj := hd.lt hj
 refine CQ.body (E := env) env_ok hd rfl rfl (by show _ ≤ _; exact of_decide_eq_true (by kernel_rfl)) ?_
 refine RA.seq hd ?_
 refine RA.region env_ok ?_
 refine OA.op1 (dst := (some 4)) (v := (Pt n 0 0)) (n1 := (n + 1)) (w := (n, some ⟨[(xAc38 x k)], 15, 53, true⟩)) rfl rfl rfl rfl (by omega) ?_
 refine OA.op1 (dst := (some 6)) (v := (.pointer (some ⟨(n + 1), 0, some 0⟩))) (n1 := (n + 2)) (w := ((n + 1), some ⟨[xAc39], 15, 53, true⟩)) rfl rfl rfl rfl (by omega) ?_
 refine OA.nil ?_
 intro _
 refine RA.seq hd ?_
 refine RA.seq hd ?_
 refine RA.region env_ok ?_
 refine OA.p (some 14) (Pt b 0 0) rfl rfl rfl rfl ?_
 refine OA.p (some 15) (.bool false) rfl rfl rfl rfl ?_
 refine OA.nil ?_
 intro _
 refine RA.condF rfl ?_
 refine RA.skip env_ok ?_
 intro _
 refine RA.seq hd ?_
 refine RA.region env_ok ?_
 refine OA.p (some 17) (Pt n 0 2) rfl rfl rfl rfl ?_
 refine OA.p (some 18) (W x) rfl rfl rfl (r_load1 rfl rfl rfl rfl rfl (get_there (by omega) get_here) rfl rfl) ?_
 refine OA.p (some 19) (.agg ⟨(xAc310 x)⟩) rfl rfl rfl (by kernel_rfl) ?_
 refine OA.op1 (dst := (some 7)) (v := (.pointer (some ⟨(n + 2), 0, some 0⟩))) (n1 := (n + 3)) (w := ((n + 2), some ⟨[xAc39], 15, 53, true⟩)) rfl rfl rfl rfl (by omega) ?_
 refine OA.op1 (dst := none) (v := (.tuple #[])) (n1 := (n + 3)) (w := ((n + 2), some ⟨[(xAc310 x)], 15, 53, true⟩)) rfl rfl rfl (r_store rfl rfl rfl rfl rfl rfl rfl get_here rfl rfl (Nat.le_of_ble_eq_true rfl) rfl) (by omega) ?_
 refine OA.nil ?_
 intro _
 refine RA.weaken (D' := [((n + 2), some ⟨[(xAc310 x)], 15, 53, true⟩), ((n + 1), some ⟨[xAc39], 15, 53, true⟩), (n, some ⟨[(xAc38 x k)], 15, 53, true⟩)]) hd (Less.of (fac (mm (fun _ => get_here) (fun _ => get_here)) (fac (mm (fun _ => (get_there (by omega) get_here)) (fun _ => (gt2 (by omega) get_here))) (fac (mm (fun _ => (gt2 (by omega) get_here)) (fun _ => (gt3 (by omega) get_here))) fan))) (gone_of (by simp only [goneP, memP, List.cons_append, List.nil_append, true_or, or_true, true_and, and_true, or_false] <;> omega))) ?_
 refine RA.seq hd ?_
 refine RA.seq hd ?_
 refine RA.region env_ok ?_
 refine OA.p (some 20) (.agg ⟨(xAc38 x k)⟩) rfl rfl rfl (r_loadA rfl rfl rfl rfl (gt2 (by omega) get_here) rfl rfl rfl) ?_
 refine OA.call (dst := (some 21)) (all := [(.agg ⟨(xAc38 x k)⟩)]) rfl rfl rfl rfl rfl rfl rfl rfl (CQ.imp (aAsked49153 (hd.of (by omega) (kb3 (by omega))) x k (gt3 (by omega) hk)) ?_)
 rintro _ n1 _ ⟨in1, p1n1, p2n1, rfl, rfl⟩ hn1
 refine OA.app1 ?_
 refine OA.p (some 22) (.int .i64 1) rfl rfl rfl rfl ?_
 refine OA.p (some 23) (.int .i64 0) rfl rfl rfl rfl ?_
 refine OA.nil ?_
 intro _
 refine RA.block ?_
 refine RA.unroll hd ?_
 refine RA.seq hd ?_
 refine RA.region env_ok ?_
 refine OA.p (some 24) (.bool true) rfl rfl rfl (r_bin rfl rfl rfl (b_lss rfl)) ?_
 refine OA.nil ?_
 intro _
 refine RA.seq hd ?_
 refine RA.condT rfl ?_
 refine RA.skip env_ok ?_
 intro _
 refine RA.seq hd ?_
 refine RA.block ?_
 refine RA.seq hd ?_
 refine RA.region env_ok ?_
 refine OA.p (some 25) (.int .i64 0) rfl rfl rfl rfl ?_
 refine OA.p (some 26) (Pt in1 0 0) rfl rfl rfl (r_iaS (l := 0) rfl rfl rfl rfl rfl rfl (by omega) (by omega) get_here rfl (by omega)) ?_
 refine OA.p (some 27) (.agg ⟨[(.int .i64 49153), (.string (bstr (be4 x ++ (be2 5 ++ (be2 8 ++ (be4 0#32 ++ []))))))]⟩) rfl rfl rfl (r_loadA rfl rfl rfl rfl get_here rfl rfl rfl) ?_
 refine OA.op1 (dst := (some 9)) (v := (Pt n1 0 0)) (n1 := (n1 + 1)) (w := (n1, some ⟨[[(.int .i64 0), (.string ByteArray.empty)]], 2, 35, true⟩)) rfl rfl rfl rfl (by omega) ?_
 refine OA.p (some 8) (.int .i64 0) rfl rfl rfl rfl ?_
 refine OA.op1 (dst := none) (v := (.tuple #[])) (n1 := (n1 + 1)) (w := (n1, some ⟨[[(.int .i64 49153), (.string (bstr (be4 x ++ (be2 5 ++ (be2 8 ++ (be4 0#32 ++ []))))))]], 2, 35, true⟩)) rfl rfl rfl (r_store rfl rfl rfl rfl rfl rfl rfl get_here rfl rfl (Nat.le_of_ble_eq_true rfl) rfl) (by omega) ?_
 refine OA.nil ?_
 intro _
 refine RA.weaken (D' := [(n1, some ⟨[[(.int .i64 49153), (.string (bstr (be4 x ++ (be2 5 ++ (be2 8 ++ (be4 0#32 ++ []))))))]], 2, 35, true⟩), (in1, some ⟨[[(.int .i64 49153), (.string (bstr (be4 x ++ (be2 5 ++ (be2 8 ++ (be4 0#32 ++ []))))))]], 2, 35, true⟩), ((n + 2), some ⟨[(xAc310 x)], 15, 53, true⟩), ((n + 1), some ⟨[xAc39], 15, 53, true⟩), (n, some ⟨[(xAc38 x k)], 15, 53, true⟩)]) hd (Less.of (fac (mm (fun _ => get_here) (fun _ => get_here)) (fac (mm (fun _ => (get_there (by omega) get_here)) (fun _ => (gt2 (by omega) get_here))) (fac (mm (fun _ => (gt2 (by omega) get_here)) (fun _ => (gt3 (by omega) get_here))) (fac (mm (fun _ => (gt3 (by omega) get_here)) (fun _ => (gt4 (by omega) get_here))) (fac (mm (fun _ => (gt4 (by omega) get_here)) (fun _ => (gt5 (by omega) get_here))) fan))))) (gone_of (by simp only [goneP, memP, List.cons_append, List.nil_append, true_or, or_true, true_and, and_true, or_false] <;> omega))) ?_
 refine RA.seq hd ?_
 refine RA.region env_ok ?_
 refine OA.p (some 29) (.agg ⟨[(.int .i64 49153), (.string (bstr (be4 x ++ (be2 5 ++ (be2 8 ++ (be4 0#32 ++ []))))))]⟩) rfl rfl rfl (r_loadA rfl rfl rfl rfl get_here rfl rfl rfl) ?_
 refine OA.callP (dst := (some 30)) (all := [(.agg ⟨[(.int .i64 49153), (.string (bstr (be4 x ++ (be2 5 ++ (be2 8 ++ (be4 0#32 ++ []))))))]⟩)]) (v := (.tuple ⟨[(W x), (W 0#32), (.bool true)]⟩)) (hd.of (by omega) (kb5 (by omega))) rfl rfl rfl rfl rfl rfl rfl rfl (cReq49153 x) ?_
 intro n2 hn2
 refine OA.p (some 28) (.tuple ⟨[(W x), (W 0#32), (.bool true)]⟩) rfl rfl rfl rfl ?_
 refine OA.p (some 31) (W x) rfl rfl rfl rfl ?_
 refine OA.p (some 32) (W 0#32) rfl rfl rfl rfl ?_
 refine OA.p (some 33) (.bool true) rfl rfl rfl rfl ?_
 refine OA.p (some 10) (W x) rfl rfl rfl rfl ?_
 refine OA.p (some 11) (W 0#32) rfl rfl rfl rfl ?_
 refine OA.p (some 12) (.bool true) rfl rfl rfl rfl ?_
 refine OA.nil ?_
 intro _
 refine RA.rebase [(0, (Pt b 0 0)), (1, (.agg ⟨(xAc38 x k)⟩)), (2, (.slice (some ⟨j, 0, none⟩) 1 0)), (4, (Pt n 0 0)), (6, (.pointer (some ⟨(n + 1), 0, some 0⟩))), (7, (.pointer (some ⟨(n + 2), 0, some 0⟩))), (8, (.int .i64 0)), (9, (Pt n1 0 0)), (10, (W x)), (15, (.bool false)), (21, (.slice (some ⟨in1, 0, none⟩) 1 0)), (22, (.int .i64 1)), (23, (.int .i64 0)), (24, (.bool true))] ⟨rfl, rfl, rfl, rfl, rfl, rfl, rfl, rfl, rfl, rfl, rfl, rfl, rfl, rfl, trivial⟩ (fun τr3 => ?_)
 refine RA.seq hd ?_
 refine RA.region env_ok ?_
 refine OA.p (some 13) (.string (ByteArray.mk #[])) rfl rfl rfl rfl ?_
 refine OA.nil ?_
 intro _
 refine RA.seq hd ?_
 refine RA.seq hd ?_
 refine RA.region env_ok ?_
 refine OA.p (some 34) (.int .i64 0) rfl rfl rfl rfl ?_
 refine OA.p (some 35) (.slice (some ⟨j, 0, none⟩) 1 0) rfl rfl rfl rfl ?_
 refine OA.p (some 36) (.int .i64 1) rfl rfl rfl rfl ?_
 refine OA.p (some 37) (.bool true) rfl rfl rfl (r_bin rfl rfl rfl (b_lss rfl)) ?_
 refine OA.p (some 38) (.bool true) rfl rfl rfl rfl ?_
 refine OA.p (some 39) (.slice (some ⟨j, 0, none⟩) 1 0) rfl rfl rfl rfl ?_
 refine OA.p (some 40) (.int .i64 0) rfl rfl rfl rfl ?_
 refine OA.p (some 41) (Pt j 0 0) rfl rfl rfl (r_iaS (l := 0) rfl rfl rfl rfl rfl rfl (by omega) (by omega) (gt5 (by omega) hj) rfl (by omega)) ?_
 refine OA.p (some 42) (.int .i64 0) rfl rfl rfl (r_load1 rfl rfl rfl rfl rfl (gt5 (by omega) hj) rfl rfl) ?_
 refine OA.p (some 43) (.bool false) rfl rfl rfl (r_bin rfl rfl rfl (b_neq rfl)) ?_
 refine OA.p (some 44) (.bool false) rfl rfl rfl rfl ?_
 refine OA.nil ?_
 intro _
 refine RA.condF rfl ?_
 refine RA.skip env_ok ?_
 intro _
 refine RA.par (md := [some [], some [(n + 2)], some [], some [], none, some [], none, some [], none]) env_ok (hd.of (by omega) (kb5 (by omega))) (by kernel_rfl) ?_
 refine PQ.pure (dst := (some 51)) (v := (.pointer (some ⟨(n + 2), 0, some 11⟩))) rfl rfl rfl noStore (none_ok _ _) rfl ?_
 refine PQ.pure (dst := (some 52)) (v := (.slice none 0 0)) rfl rfl rfl (app [((n + 2), some ⟨[(xAc310 x)], 15, 53, true⟩)] noStore) (seen_one (V := []) (D := [(n1, some ⟨[[(.int .i64 49153), (.string (bstr (be4 x ++ (be2 5 ++ (be2 8 ++ (be4 0#32 ++ []))))))]], 2, 35, true⟩), (in1, some ⟨[[(.int .i64 49153), (.string (bstr (be4 x ++ (be2 5 ++ (be2 8 ++ (be4 0#32 ++ []))))))]], 2, 35, true⟩), ((n + 2), some ⟨[(xAc310 x)], 15, 53, true⟩), ((n + 1), some ⟨[xAc39], 15, 53, true⟩), (n, some ⟨[(xAc38 x k)], 15, 53, true⟩)]) (by kernel_rfl) (gt2 (by omega) get_here)) (r_load1 rfl rfl rfl rfl rfl get_here rfl rfl) ?_
 refine PQ.pure (dst := (some 53)) (v := (W x)) rfl rfl rfl noStore (none_ok _ _) rfl ?_
 refine PQ.pure (dst := (some 54)) (v := (.string (ByteArray.mk #[]))) rfl rfl rfl noStore (none_ok _ _) rfl ?_
 refine PQ.callP (dst := (some 55)) (all := [(W x), (.string (ByteArray.mk #[]))]) (v := (.agg ⟨[(.int .i64 49157), (.string (bstr (be4 x)))]⟩)) _ (hd.of (by omega) (kb5 (by omega))) rfl rfl rfl rfl rfl rfl rfl rfl (seen_any (V := []) (D := [(n1, some ⟨[[(.int .i64 49153), (.string (bstr (be4 x ++ (be2 5 ++ (be2 8 ++ (be4 0#32 ++ []))))))]], 2, 35, true⟩), (in1, some ⟨[[(.int .i64 49153), (.string (bstr (be4 x ++ (be2 5 ++ (be2 8 ++ (be4 0#32 ++ []))))))]], 2, 35, true⟩), ((n + 2), some ⟨[(xAc310 x)], 15, 53, true⟩), ((n + 1), some ⟨[xAc39], 15, 53, true⟩), (n, some ⟨[(xAc38 x k)], 15, 53, true⟩)]) (by kernel_rfl)) (aAns0 x) ?_
 intro n4 hn4
 refine PQ.op (dst := (some 56)) (v := (.slice (some ⟨n4, 0, none⟩) 1 0)) (n1 := (n4 + 1)) (d1 := [(n4, some ⟨[[(.int .i64 49157), (.string (bstr (be4 x)))]], 2, 35, true⟩)]) rfl rfl rfl noStore (none_ok _ _) (by kernel_rfl) (by omega) (kp1 (wr_new (by omega) (by omega))) ?_
 refine PQ.op (dst := (some 57)) (v := (.slice (some ⟨(n4 + 1), 0, none⟩) 1 0)) (n1 := (n4 + 2)) (d1 := [((n4 + 1), some ⟨[[(.int .i64 49157), (.string (bstr (be4 x)))]], 2, 35, true⟩)]) rfl rfl rfl _ (seen_any (V := [(n4, some ⟨[[(.int .i64 49157), (.string (bstr (be4 x)))]], 2, 35, true⟩)]) (D := [(n1, some ⟨[[(.int .i64 49153), (.string (bstr (be4 x ++ (be2 5 ++ (be2 8 ++ (be4 0#32 ++ []))))))]], 2, 35, true⟩), (in1, some ⟨[[(.int .i64 49153), (.string (bstr (be4 x ++ (be2 5 ++ (be2 8 ++ (be4 0#32 ++ []))))))]], 2, 35, true⟩), ((n + 2), some ⟨[(xAc310 x)], 15, 53, true⟩), ((n + 1), some ⟨[xAc39], 15, 53, true⟩), (n, some ⟨[(xAc38 x k)], 15, 53, true⟩)]) (by kernel_rfl)) (r_append0 rfl rfl rfl rfl rfl rfl rfl rfl rfl rfl (by decide) get_here (of_decide_eq_true (by kernel_rfl))) (by omega) (kp1 (wr_new (by omega) (by omega))) ?_
 refine PQ.pure (dst := (some 58)) (v := (.pointer (some ⟨(n + 2), 0, some 11⟩))) rfl rfl rfl noStore (none_ok _ _) rfl ?_
 refine PQ.op (dst := none) (v := (.tuple #[])) (n1 := (n4 + 2)) (d1 := [((n + 2), some ⟨[(xAc35 x n4)], 15, 53, true⟩)]) rfl rfl rfl _ (seen_any (V := [((n4 + 1), some ⟨[[(.int .i64 49157), (.string (bstr (be4 x)))]], 2, 35, true⟩), (n4, some ⟨[[(.int .i64 49157), (.string (bstr (be4 x)))]], 2, 35, true⟩)]) (D := [(n1, some ⟨[[(.int .i64 49153), (.string (bstr (be4 x ++ (be2 5 ++ (be2 8 ++ (be4 0#32 ++ []))))))]], 2, 35, true⟩), (in1, some ⟨[[(.int .i64 49153), (.string (bstr (be4 x ++ (be2 5 ++ (be2 8 ++ (be4 0#32 ++ []))))))]], 2, 35, true⟩), ((n + 2), some ⟨[(xAc310 x)], 15, 53, true⟩), ((n + 1), some ⟨[xAc39], 15, 53, true⟩), (n, some ⟨[(xAc38 x k)], 15, 53, true⟩)]) (by kernel_rfl)) (r_store rfl rfl rfl rfl rfl rfl rfl (gt4 (by omega) get_here) rfl rfl (Nat.le_of_ble_eq_true rfl) rfl) (by omega) (kp1 (wr_tight (by kernel_rfl) (by omega))) ?_
 refine PQ.done (d := [((n + 2), some ⟨[(xAc35 x n4)], 15, 53, true⟩), ((n4 + 1), some ⟨[[(.int .i64 49157), (.string (bstr (be4 x)))]], 2, 35, true⟩), (n4, some ⟨[[(.int .i64 49157), (.string (bstr (be4 x)))]], 2, 35, true⟩)]) (by kernel_rfl) ?_
 intro _
 refine RA.weaken (D' := [((n + 2), some ⟨[(xAc35 x n4)], 15, 53, true⟩), ((n4 + 1), some ⟨[[(.int .i64 49157), (.string (bstr (be4 x)))]], 2, 35, true⟩), (n4, some ⟨[[(.int .i64 49157), (.string (bstr (be4 x)))]], 2, 35, true⟩), (n1, some ⟨[[(.int .i64 49153), (.string (bstr (be4 x ++ (be2 5 ++ (be2 8 ++ (be4 0#32 ++ []))))))]], 2, 35, true⟩), (in1, some ⟨[[(.int .i64 49153), (.string (bstr (be4 x ++ (be2 5 ++ (be2 8 ++ (be4 0#32 ++ []))))))]], 2, 35, true⟩), ((n + 1), some ⟨[xAc39], 15, 53, true⟩), (n, some ⟨[(xAc38 x k)], 15, 53, true⟩)]) hd (Less.of (fac (mm (fun _ => get_here) (fun _ => get_here)) (fac (mm (fun _ => (get_there (by omega) get_here)) (fun _ => (get_there (by omega) get_here))) (fac (mm (fun _ => (gt2 (by omega) get_here)) (fun _ => (gt2 (by omega) get_here))) (fac (mm (fun _ => (gt3 (by omega) get_here)) (fun _ => (gt3 (by omega) get_here))) (fac (mm (fun _ => (gt4 (by omega) get_here)) (fun _ => (gt4 (by omega) get_here))) (fac (mm (fun _ => (gt5 (by omega) get_here)) (fun _ => (gt6 (by omega) get_here))) (fac (mm (fun _ => (gt6 (by omega) get_here)) (fun _ => (gt7 (by omega) get_here))) fan))))))) (gone_of (by simp only [goneP, memP, List.cons_append, List.nil_append, true_or, or_true, true_and, and_true, or_false] <;> omega))) ?_
 refine RA.region env_ok ?_
 refine OA.p (some 59) (.int .i64 1) rfl rfl rfl (r_bin rfl rfl rfl (b_add (i64_eq (by omega)))) ?_
 refine OA.p (some 23) (.int .i64 1) rfl rfl rfl rfl ?_
 refine OA.nil ?_
 intro _
 refine RA.unroll hd ?_
 refine RA.seq hd ?_
 refine RA.region env_ok ?_
 refine OA.p (some 24) (.bool false) rfl rfl rfl (r_bin rfl rfl rfl (b_lss rfl)) ?_
 refine OA.nil ?_
 intro _
 refine RA.seq hd ?_
 refine RA.condF rfl ?_
 refine RA.exit env_ok ?_
 intro _
 refine RA.seq hd ?_
 refine RA.region env_ok ?_
 refine OA.p (some 60) (Pt b 0 0) rfl rfl rfl rfl ?_
 refine OA.p (some 61) (Pt b 0 0) rfl rfl rfl rfl ?_
 refine OA.p (some 62) (.agg ⟨(xAc35 x n4)⟩) rfl rfl rfl (r_loadA rfl rfl rfl rfl get_here rfl rfl rfl) ?_
 refine OA.p (some 63) (Pt b 0 0) rfl rfl rfl rfl ?_
 refine OA.p (some 64) (Pt b 0 1) rfl rfl rfl rfl ?_
 refine OA.op1 (dst := none) (v := (.tuple #[])) (n1 := (n4 + 2)) (w := (b, some ⟨[[(W nx), (.int .i64 128), (.int .i64 0), (W x), (.int .i64 0), (.int .i64 0), (.int .u32 0), (.string ByteArray.empty), (.int .u32 0), (.int .u32 0), (.int .i64 0), (.int .i64 0), (.slice (some ⟨(n4 + 1), 0, none⟩) 1 0), (.slice none 0 0), (.slice none 0 0), (.slice none 0 0), (.bool false)]], 17, 103, true⟩)) rfl rfl rfl (r_store rfl rfl rfl rfl rfl rfl rfl (gt7 (by omega) hb) rfl rfl (Nat.le_of_ble_eq_true rfl) rfl) (by omega) ?_
 refine OA.p (some 65) (Pt b 0 0) rfl rfl rfl rfl ?_
 refine OA.p (some 66) (Pt b 0 16) rfl rfl rfl rfl ?_
 refine OA.op1 (dst := none) (v := (.tuple #[])) (n1 := (n4 + 2)) (w := (b, some ⟨[(xAc33 nx x n4)], 17, 103, true⟩)) rfl rfl rfl (r_store rfl rfl rfl rfl rfl rfl rfl get_here rfl rfl (Nat.le_of_ble_eq_true rfl) rfl) (by omega) ?_
 refine OA.nil ?_
 intro _
 refine RA.weaken (D' := [(b, some ⟨[(xAc33 nx x n4)], 17, 103, true⟩), ((n + 2), some ⟨[(xAc35 x n4)], 15, 53, true⟩), ((n4 + 1), some ⟨[[(.int .i64 49157), (.string (bstr (be4 x)))]], 2, 35, true⟩), (n4, some ⟨[[(.int .i64 49157), (.string (bstr (be4 x)))]], 2, 35, true⟩), (n1, some ⟨[[(.int .i64 49153), (.string (bstr (be4 x ++ (be2 5 ++ (be2 8 ++ (be4 0#32 ++ []))))))]], 2, 35, true⟩), (in1, some ⟨[[(.int .i64 49153), (.string (bstr (be4 x ++ (be2 5 ++ (be2 8 ++ (be4 0#32 ++ []))))))]], 2, 35, true⟩), ((n + 1), some ⟨[xAc39], 15, 53, true⟩), (n, some ⟨[(xAc38 x k)], 15, 53, true⟩)]) hd (Less.of (fac (mm (fun _ => get_here) (fun _ => get_here)) (fac (mm (fun _ => (get_there (by omega) get_here)) (fun _ => (gt2 (by omega) get_here))) (fac (mm (fun _ => (gt2 (by omega) get_here)) (fun _ => (gt3 (by omega) get_here))) (fac (mm (fun _ => (gt3 (by omega) get_here)) (fun _ => (gt4 (by omega) get_here))) (fac (mm (fun _ => (gt4 (by omega) get_here)) (fun _ => (gt5 (by omega) get_here))) (fac (mm (fun _ => (gt5 (by omega) get_here)) (fun _ => (gt6 (by omega) get_here))) (fac (mm (fun _ => (gt6 (by omega) get_here)) (fun _ => (gt7 (by omega) get_here))) (fac (mm (fun _ => (gt7 (by omega) get_here)) (fun _ => (gt8 (by omega) get_here))) fan)))))))) (gone_of (by simp only [goneP, memP, List.cons_append, List.nil_append, true_or, or_true, true_and, and_true, or_false] <;> omega))) ?_
 refine RA.rebase [(0, (Pt b 0 0)), (1, (.agg ⟨(xAc38 x k)⟩)), (2, (.slice (some ⟨j, 0, none⟩) 1 0)), (4, (Pt n 0 0)), (6, (.pointer (some ⟨(n + 1), 0, some 0⟩))), (7, (.pointer (some ⟨(n + 2), 0, some 0⟩))), (8, (.int .i64 0)), (9, (Pt n1 0 0)), (10, (W x)), (13, (.string (ByteArray.mk #[]))), (15, (.bool false)), (21, (.slice (some ⟨in1, 0, none⟩) 1 0)), (22, (.int .i64 1)), (23, (.int .i64 1)), (24, (.bool false)), (44, (.bool false))] ⟨rfl, rfl, rfl, rfl, rfl, rfl, rfl, rfl, rfl, rfl, rfl, rfl, rfl, rfl, rfl, rfl, trivial⟩ (fun τr5 => ?_)
 refine RA.seq hd ?_
 refine RA.region env_ok ?_
 refine OA.p (some 67) (Pt b 0 0) rfl rfl rfl rfl ?_
 refine OA.p (some 68) (Pt b 0 0) rfl rfl rfl rfl ?_
 refine OA.p (some 69) (Pt b 0 0) rfl rfl rfl rfl ?_
 refine OA.p (some 70) (W nx) rfl rfl rfl (r_load1 rfl rfl rfl rfl rfl get_here rfl rfl) ?_
 refine OA.p (some 71) (W (nx + (1#32))) rfl rfl rfl (r_bin rfl rfl rfl (b_addW nx (1#32))) ?_
 refine OA.p (some 72) (Pt b 0 0) rfl rfl rfl rfl ?_
 refine OA.p (some 73) (Pt b 0 0) rfl rfl rfl rfl ?_
 refine OA.op1 (dst := none) (v := (.tuple #[])) (n1 := (n4 + 2)) (w := (b, some ⟨[(xAc31 nx x n4)], 17, 103, true⟩)) rfl rfl rfl (r_store rfl rfl rfl rfl rfl rfl rfl get_here rfl rfl (Nat.le_of_ble_eq_true rfl) rfl) (by omega) ?_
 refine OA.nil ?_
 intro _
 refine RA.weaken (D' := [(b, some ⟨[(xAc31 nx x n4)], 17, 103, true⟩), ((n + 2), some ⟨[(xAc35 x n4)], 15, 53, true⟩), ((n4 + 1), some ⟨[[(.int .i64 49157), (.string (bstr (be4 x)))]], 2, 35, true⟩), (n4, some ⟨[[(.int .i64 49157), (.string (bstr (be4 x)))]], 2, 35, true⟩), (n1, some ⟨[[(.int .i64 49153), (.string (bstr (be4 x ++ (be2 5 ++ (be2 8 ++ (be4 0#32 ++ []))))))]], 2, 35, true⟩), (in1, some ⟨[[(.int .i64 49153), (.string (bstr (be4 x ++ (be2 5 ++ (be2 8 ++ (be4 0#32 ++ []))))))]], 2, 35, true⟩), ((n + 1), some ⟨[xAc39], 15, 53, true⟩), (n, some ⟨[(xAc38 x k)], 15, 53, true⟩)]) hd (Less.of (fac (mm (fun _ => get_here) (fun _ => get_here)) (fac (mm (fun _ => (get_there (by omega) get_here)) (fun _ => (gt2 (by omega) get_here))) (fac (mm (fun _ => (gt2 (by omega) get_here)) (fun _ => (gt3 (by omega) get_here))) (fac (mm (fun _ => (gt3 (by omega) get_here)) (fun _ => (gt4 (by omega) get_here))) (fac (mm (fun _ => (gt4 (by omega) get_here)) (fun _ => (gt5 (by omega) get_here))) (fac (mm (fun _ => (gt5 (by omega) get_here)) (fun _ => (gt6 (by omega) get_here))) (fac (mm (fun _ => (gt6 (by omega) get_here)) (fun _ => (gt7 (by omega) get_here))) (fac (mm (fun _ => (gt7 (by omega) get_here)) (fun _ => (gt8 (by omega) get_here))) fan)))))))) (gone_of (by simp only [goneP, memP, List.cons_append, List.nil_append, true_or, or_true, true_and, and_true, or_false] <;> omega))) ?_
 refine RA.seq hd ?_
 refine RA.region env_ok ?_
 refine OA.p (some 74) (.agg ⟨(xAc35 x n4)⟩) rfl rfl rfl (r_loadA rfl rfl rfl rfl (get_there (by omega) get_here) rfl rfl rfl) ?_
 refine OA.op1 (dst := none) (v := (.tuple #[])) (n1 := (n4 + 2)) (w := ((n + 1), some ⟨[(xAc35 x n4)], 15, 53, true⟩)) rfl rfl rfl (r_store rfl rfl rfl rfl rfl rfl rfl (gt6 (by omega) get_here) rfl rfl (Nat.le_of_ble_eq_true rfl) rfl) (by omega) ?_
 refine OA.nil ?_
 intro _
 refine RA.weaken (D' := [((n + 1), some ⟨[(xAc35 x n4)], 15, 53, true⟩), (b, some ⟨[(xAc31 nx x n4)], 17, 103, true⟩), ((n + 2), some ⟨[(xAc35 x n4)], 15, 53, true⟩), ((n4 + 1), some ⟨[[(.int .i64 49157), (.string (bstr (be4 x)))]], 2, 35, true⟩), (n4, some ⟨[[(.int .i64 49157), (.string (bstr (be4 x)))]], 2, 35, true⟩), (n1, some ⟨[[(.int .i64 49153), (.string (bstr (be4 x ++ (be2 5 ++ (be2 8 ++ (be4 0#32 ++ []))))))]], 2, 35, true⟩), (in1, some ⟨[[(.int .i64 49153), (.string (bstr (be4 x ++ (be2 5 ++ (be2 8 ++ (be4 0#32 ++ []))))))]], 2, 35, true⟩), (n, some ⟨[(xAc38 x k)], 15, 53, true⟩)]) hd (Less.of (fac (mm (fun _ => get_here) (fun _ => get_here)) (fac (mm (fun _ => (get_there (by omega) get_here)) (fun _ => (get_there (by omega) get_here))) (fac (mm (fun _ => (gt2 (by omega) get_here)) (fun _ => (gt2 (by omega) get_here))) (fac (mm (fun _ => (gt3 (by omega) get_here)) (fun _ => (gt3 (by omega) get_here))) (fac (mm (fun _ => (gt4 (by omega) get_here)) (fun _ => (gt4 (by omega) get_here))) (fac (mm (fun _ => (gt5 (by omega) get_here)) (fun _ => (gt5 (by omega) get_here))) (fac (mm (fun _ => (gt6 (by omega) get_here)) (fun _ => (gt6 (by omega) get_here))) (fac (mm (fun _ => (gt7 (by omega) get_here)) (fun _ => (gt8 (by omega) get_here))) fan)))))))) (gone_of (by simp only [goneP, memP, List.cons_append, List.nil_append, true_or, or_true, true_and, and_true, or_false] <;> omega))) ?_
 refine RA.ret env_ok ?_
 refine ⟨.inr rfl, [(.agg ⟨(xAc35 x n4)⟩)], (resL_cons (res_cellA rfl rfl rfl get_here rfl rfl rfl) resL_nil), [(b, some ⟨[(xAc31 nx x n4)], 17, 103, true⟩), ((n4 + 1), some ⟨[[(.int .i64 49157), (.string (bstr (be4 x)))]], 2, 35, true⟩)], (Less.of (fac (mm (fun _ => get_here) (fun _ => (get_there (by omega) get_here))) (fac (mm (fun _ => (get_there (by omega) get_here)) (fun _ => (gt3 (by omega) get_here))) fan)) (gone_of (by simp only [goneP, memP, List.cons_append, List.nil_append, true_or, or_true, true_and, and_true, or_false] <;> omega))), ⟨(n4 + 1), by omega, by omega, rfl, rfl⟩⟩

theorem aGive491530T {n : Nat} {σ : Store} (hd : Dom n σ) (x nx lt : BitVec 32) (b k j ka : Nat)  (hb : σ b = some ⟨[[(W nx), (.int .i64 128), (.int .i64 0), (W lt), (.int .i64 0), (.int .i64 0), (.int .u32 0), (.string ByteArray.empty), (.int .u32 0), (.int .u32 0), (.int .i64 0), (.int .i64 0), (.slice (some ⟨ka, 0, none⟩) 1 0), (.slice none 0 0), (.slice none 0 0), (.slice none 0 0), (.bool true)]], 17, 103, true⟩) (hk : σ k = some ⟨[[(.int .i64 5), (.string (bstr (be4 0#32)))], [(.int .i64 49153), (.string (bstr (be4 x ++ (be2 5 ++ (be2 8 ++ (be4 0#32 ++ []))))))], [(.int .i64 49160), (.string (bstr ((be4 x ++ be4 3#32) ++ be4 4#32)))]], 2, 35, true⟩) (hj : σ j = some ⟨[[(.int .i64 0)]], 1, 3, true⟩)  : CQ Try.prog noDen 41 [(Pt b 0 0), (.agg ⟨[(.int .i64 193), (.int .i64 0), (W x), (.int .i64 0), (.int .i64 0), (.int .u32 0), (.string ByteArray.empty), (.int .u32 0), (.int .u32 0), (.int .i64 0), (.int .i64 0), (.slice (some ⟨k, 0, none⟩) 3 0), (.slice none 0 0), (.slice none 0 0), (.slice none 0 0)]⟩), (.slice (some ⟨j, 0, none⟩) 1 0)] n σ (fun v n' d => ∃ i, n ≤ i ∧ i < n' ∧ v = (.agg ⟨[(.int .i64 128), (.int .i64 0), (W x), (.int .i64 0), (.int .i64 0), (.int .u32 0), (.string ByteArray.empty), (.int .u32 0), (.int .u32 0), (.int .i64 0), (.int .i64 0), (.slice (some ⟨i, 0, none⟩) 1 0), (.slice none 0 0), (.slice none 0 0), (.slice none 0 0)]⟩) ∧ d = [(b, some ⟨[[(W (nx + 1#32)), (.int .i64 128), (.int .i64 0), (W x), (.int .i64 0), (.int .i64 0), (.int .u32 0), (.string ByteArray.empty), (.int .u32 0), (.int .u32 0), (.int .i64 0), (.int .i64 0), (.slice (some ⟨i, 0, none⟩) 1 0), (.slice none 0 0), (.slice none 0 0), (.slice none 0 0), (.bool true)]], 17, 103, true⟩), (i, some ⟨[[(.int .i64 49157), (.string (bstr (be4 x)))]], 2, 35, true⟩)]) := by
 have lhb := hd.lt hb
 have lhk := hd.lt hk
 have lhj := hd.lt hj
 refine CQ.body (E := env) env_ok hd rfl rfl (by show _ ≤ _; exact of_decide_eq_true (by kernel_rfl)) ?_
 refine RA.seq hd ?_
 refine RA.region env_ok ?_
 refine OA.op1 (dst := (some 4)) (v := (Pt n 0 0)) (n1 := (n + 1)) (w := (n, some ⟨[(xAc38 x k)], 15, 53, true⟩)) rfl rfl rfl rfl (by omega) ?_
 refine OA.op1 (dst := (some 6)) (v := (.pointer (some ⟨(n + 1), 0, some 0⟩))) (n1 := (n + 2)) (w := ((n + 1), some ⟨[xAc39], 15, 53, true⟩)) rfl rfl rfl rfl (by omega) ?_
 refine OA.nil ?_
 intro _
 refine RA.seq hd ?_
 refine RA.seq hd ?_
 refine RA.region env_ok ?_
 refine OA.p (some 14) (Pt b 0 0) rfl rfl rfl rfl ?_
 refine OA.p (some 15) (.bool false) rfl rfl rfl rfl ?_
 refine OA.nil ?_
 intro _
 refine RA.condF rfl ?_
 refine RA.skip env_ok ?_
 intro _
 refine RA.seq hd ?_
 refine RA.region env_ok ?_
 refine OA.p (some 17) (Pt n 0 2) rfl rfl rfl rfl ?_
 refine OA.p (some 18) (W x) rfl rfl rfl (r_load1 rfl rfl rfl rfl rfl (get_there (by omega) get_here) rfl rfl) ?_
 refine OA.p (some 19) (.agg ⟨(xAc310 x)⟩) rfl rfl rfl (by kernel_rfl) ?_
 refine OA.op1 (dst := (some 7)) (v := (.pointer (some ⟨(n + 2), 0, some 0⟩))) (n1 := (n + 3)) (w := ((n + 2), some ⟨[xAc39], 15, 53, true⟩)) rfl rfl rfl rfl (by omega) ?_
 refine OA.op1 (dst := none) (v := (.tuple #[])) (n1 := (n + 3)) (w := ((n + 2), some ⟨[(xAc310 x)], 15, 53, true⟩)) rfl rfl rfl (r_store rfl rfl rfl rfl rfl rfl rfl get_here rfl rfl (Nat.le_of_ble_eq_true rfl) rfl) (by omega) ?_
 refine OA.nil ?_
 intro _
 refine RA.weaken (D' := [((n + 2), some ⟨[(xAc310 x)], 15, 53, true⟩), ((n + 1), some ⟨[xAc39], 15, 53, true⟩), (n, some ⟨[(xAc38 x k)], 15, 53, true⟩)]) hd (Less.of (fac (mm (fun _ => get_here) (fun _ => get_here)) (fac (mm (fun _ => (get_there (by omega) get_here)) (fun _ => (gt2 (by omega) get_here))) (fac (mm (fun _ => (gt2 (by omega) get_here)) (fun _ => (gt3 (by omega) get_here))) fan))) (gone_of (by simp only [goneP, memP, List.cons_append, List.nil_append, true_or, or_true, true_and, and_true, or_false] <;> omega))) ?_
 refine RA.seq hd ?_
 refine RA.seq hd ?_
 refine RA.region env_ok ?_
 refine OA.p (some 20) (.agg ⟨(xAc38 x k)⟩) rfl rfl rfl (r_loadA rfl rfl rfl rfl (gt2 (by omega) get_here) rfl rfl rfl) ?_
 refine OA.call (dst := (some 21)) (all := [(.agg ⟨(xAc38 x k)⟩)]) rfl rfl rfl rfl rfl rfl rfl rfl (CQ.imp (aAsked49153 (hd.of (by omega) (kb3 (by omega))) x k (gt3 (by omega) hk)) ?_)
 rintro _ n1 _ ⟨in1, p1n1, p2n1, rfl, rfl⟩ hn1
 refine OA.app1 ?_
 refine OA.p (some 22) (.int .i64 1) rfl rfl rfl rfl ?_
 refine OA.p (some 23) (.int .i64 0) rfl rfl rfl rfl ?_
 refine OA.nil ?_
 intro _
 refine RA.block ?_
 refine RA.unroll hd ?_
 refine RA.seq hd ?_
 refine RA.region env_ok ?_
 refine OA.p (some 24) (.bool true) rfl rfl rfl (r_bin rfl rfl rfl (b_lss rfl)) ?_
 refine OA.nil ?_
 intro _
 refine RA.seq hd ?_
 refine RA.condT rfl ?_
 refine RA.skip env_ok ?_
 intro _
 refine RA.seq hd ?_
 refine RA.block ?_
 refine RA.seq hd ?_
 refine RA.region env_ok ?_
 refine OA.p (some 25) (.int .i64 0) rfl rfl rfl rfl ?_
 refine OA.p (some 26) (Pt in1 0 0) rfl rfl rfl (r_iaS (l := 0) rfl rfl rfl rfl rfl rfl (by omega) (by omega) get_here rfl (by omega)) ?_
 refine OA.p (some 27) (.agg ⟨[(.int .i64 49153), (.string (bstr (be4 x ++ (be2 5 ++ (be2 8 ++ (be4 0#32 ++ []))))))]⟩) rfl rfl rfl (r_loadA rfl rfl rfl rfl get_here rfl rfl rfl) ?_
 refine OA.op1 (dst := (some 9)) (v := (Pt n1 0 0)) (n1 := (n1 + 1)) (w := (n1, some ⟨[[(.int .i64 0), (.string ByteArray.empty)]], 2, 35, true⟩)) rfl rfl rfl rfl (by omega) ?_
 refine OA.p (some 8) (.int .i64 0) rfl rfl rfl rfl ?_
 refine OA.op1 (dst := none) (v := (.tuple #[])) (n1 := (n1 + 1)) (w := (n1, some ⟨[[(.int .i64 49153), (.string (bstr (be4 x ++ (be2 5 ++ (be2 8 ++ (be4 0#32 ++ []))))))]], 2, 35, true⟩)) rfl rfl rfl (r_store rfl rfl rfl rfl rfl rfl rfl get_here rfl rfl (Nat.le_of_ble_eq_true rfl) rfl) (by omega) ?_
 refine OA.nil ?_
 intro _
 refine RA.weaken (D' := [(n1, some ⟨[[(.int .i64 49153), (.string (bstr (be4 x ++ (be2 5 ++ (be2 8 ++ (be4 0#32 ++ []))))))]], 2, 35, true⟩), (in1, some ⟨[[(.int .i64 49153), (.string (bstr (be4 x ++ (be2 5 ++ (be2 8 ++ (be4 0#32 ++ []))))))]], 2, 35, true⟩), ((n + 2), some ⟨[(xAc310 x)], 15, 53, true⟩), ((n + 1), some ⟨[xAc39], 15, 53, true⟩), (n, some ⟨[(xAc38 x k)], 15, 53, true⟩)]) hd (Less.of (fac (mm (fun _ => get_here) (fun _ => get_here)) (fac (mm (fun _ => (get_there (by omega) get_here)) (fun _ => (gt2 (by omega) get_here))) (fac (mm (fun _ => (gt2 (by omega) get_here)) (fun _ => (gt3 (by omega) get_here))) (fac (mm (fun _ => (gt3 (by omega) get_here)) (fun _ => (gt4 (by omega) get_here))) (fac (mm (fun _ => (gt4 (by omega) get_here)) (fun _ => (gt5 (by omega) get_here))) fan))))) (gone_of (by simp only [goneP, memP, List.cons_append, List.nil_append, true_or, or_true, true_and, and_true, or_false] <;> omega))) ?_
 refine RA.seq hd ?_
 refine RA.region env_ok ?_
 refine OA.p (some 29) (.agg ⟨[(.int .i64 49153), (.string (bstr (be4 x ++ (be2 5 ++ (be2 8 ++ (be4 0#32 ++ []))))))]⟩) rfl rfl rfl (r_loadA rfl rfl rfl rfl get_here rfl rfl rfl) ?_
 refine OA.callP (dst := (some 30)) (all := [(.agg ⟨[(.int .i64 49153), (.string (bstr (be4 x ++ (be2 5 ++ (be2 8 ++ (be4 0#32 ++ []))))))]⟩)]) (v := (.tuple ⟨[(W x), (W 0#32), (.bool true)]⟩)) (hd.of (by omega) (kb5 (by omega))) rfl rfl rfl rfl rfl rfl rfl rfl (cReq49153 x) ?_
 intro n2 hn2
 refine OA.p (some 28) (.tuple ⟨[(W x), (W 0#32), (.bool true)]⟩) rfl rfl rfl rfl ?_
 refine OA.p (some 31) (W x) rfl rfl rfl rfl ?_
 refine OA.p (some 32) (W 0#32) rfl rfl rfl rfl ?_
 refine OA.p (some 33) (.bool true) rfl rfl rfl rfl ?_
 refine OA.p (some 10) (W x) rfl rfl rfl rfl ?_
 refine OA.p (some 11) (W 0#32) rfl rfl rfl rfl ?_
 refine OA.p (some 12) (.bool true) rfl rfl rfl rfl ?_
 refine OA.nil ?_
 intro _
 refine RA.rebase [(0, (Pt b 0 0)), (1, (.agg ⟨(xAc38 x k)⟩)), (2, (.slice (some ⟨j, 0, none⟩) 1 0)), (4, (Pt n 0 0)), (6, (.pointer (some ⟨(n + 1), 0, some 0⟩))), (7, (.pointer (some ⟨(n + 2), 0, some 0⟩))), (8, (.int .i64 0)), (9, (Pt n1 0 0)), (10, (W x)), (15, (.bool false)), (21, (.slice (some ⟨in1, 0, none⟩) 1 0)), (22, (.int .i64 1)), (23, (.int .i64 0)), (24, (.bool true))] ⟨rfl, rfl, rfl, rfl, rfl, rfl, rfl, rfl, rfl, rfl, rfl, rfl, rfl, rfl, trivial⟩ (fun τr3 => ?_)
 refine RA.seq hd ?_
 refine RA.region env_ok ?_
 refine OA.p (some 13) (.string (ByteArray.mk #[])) rfl rfl rfl rfl ?_
 refine OA.nil ?_
 intro _
 refine RA.seq hd ?_
 refine RA.seq hd ?_
 refine RA.region env_ok ?_
 refine OA.p (some 34) (.int .i64 0) rfl rfl rfl rfl ?_
 refine OA.p (some 35) (.slice (some ⟨j, 0, none⟩) 1 0) rfl rfl rfl rfl ?_
 refine OA.p (some 36) (.int .i64 1) rfl rfl rfl rfl ?_
 refine OA.p (some 37) (.bool true) rfl rfl rfl (r_bin rfl rfl rfl (b_lss rfl)) ?_
 refine OA.p (some 38) (.bool true) rfl rfl rfl rfl ?_
 refine OA.p (some 39) (.slice (some ⟨j, 0, none⟩) 1 0) rfl rfl rfl rfl ?_
 refine OA.p (some 40) (.int .i64 0) rfl rfl rfl rfl ?_
 refine OA.p (some 41) (Pt j 0 0) rfl rfl rfl (r_iaS (l := 0) rfl rfl rfl rfl rfl rfl (by omega) (by omega) (gt5 (by omega) hj) rfl (by omega)) ?_
 refine OA.p (some 42) (.int .i64 0) rfl rfl rfl (r_load1 rfl rfl rfl rfl rfl (gt5 (by omega) hj) rfl rfl) ?_
 refine OA.p (some 43) (.bool false) rfl rfl rfl (r_bin rfl rfl rfl (b_neq rfl)) ?_
 refine OA.p (some 44) (.bool false) rfl rfl rfl rfl ?_
 refine OA.nil ?_
 intro _
 refine RA.condF rfl ?_
 refine RA.skip env_ok ?_
 intro _
 refine RA.par (md := [some [], some [(n + 2)], some [], some [], none, some [], none, some [], none]) env_ok (hd.of (by omega) (kb5 (by omega))) (by kernel_rfl) ?_
 refine PQ.pure (dst := (some 51)) (v := (.pointer (some ⟨(n + 2), 0, some 11⟩))) rfl rfl rfl noStore (none_ok _ _) rfl ?_
 refine PQ.pure (dst := (some 52)) (v := (.slice none 0 0)) rfl rfl rfl (app [((n + 2), some ⟨[(xAc310 x)], 15, 53, true⟩)] noStore) (seen_one (V := []) (D := [(n1, some ⟨[[(.int .i64 49153), (.string (bstr (be4 x ++ (be2 5 ++ (be2 8 ++ (be4 0#32 ++ []))))))]], 2, 35, true⟩), (in1, some ⟨[[(.int .i64 49153), (.string (bstr (be4 x ++ (be2 5 ++ (be2 8 ++ (be4 0#32 ++ []))))))]], 2, 35, true⟩), ((n + 2), some ⟨[(xAc310 x)], 15, 53, true⟩), ((n + 1), some ⟨[xAc39], 15, 53, true⟩), (n, some ⟨[(xAc38 x k)], 15, 53, true⟩)]) (by kernel_rfl) (gt2 (by omega) get_here)) (r_load1 rfl rfl rfl rfl rfl get_here rfl rfl) ?_
 refine PQ.pure (dst := (some 53)) (v := (W x)) rfl rfl rfl noStore (none_ok _ _) rfl ?_
 refine PQ.pure (dst := (some 54)) (v := (.string (ByteArray.mk #[]))) rfl rfl rfl noStore (none_ok _ _) rfl ?_
 refine PQ.callP (dst := (some 55)) (all := [(W x), (.string (ByteArray.mk #[]))]) (v := (.agg ⟨[(.int .i64 49157), (.string (bstr (be4 x)))]⟩)) _ (hd.of (by omega) (kb5 (by omega))) rfl rfl rfl rfl rfl rfl rfl rfl (seen_any (V := []) (D := [(n1, some ⟨[[(.int .i64 49153), (.string (bstr (be4 x ++ (be2 5 ++ (be2 8 ++ (be4 0#32 ++ []))))))]], 2, 35, true⟩), (in1, some ⟨[[(.int .i64 49153), (.string (bstr (be4 x ++ (be2 5 ++ (be2 8 ++ (be4 0#32 ++ []))))))]], 2, 35, true⟩), ((n + 2), some ⟨[(xAc310 x)], 15, 53, true⟩), ((n + 1), some ⟨[xAc39], 15, 53, true⟩), (n, some ⟨[(xAc38 x k)], 15, 53, true⟩)]) (by kernel_rfl)) (aAns0 x) ?_
 intro n4 hn4
 refine PQ.op (dst := (some 56)) (v := (.slice (some ⟨n4, 0, none⟩) 1 0)) (n1 := (n4 + 1)) (d1 := [(n4, some ⟨[[(.int .i64 49157), (.string (bstr (be4 x)))]], 2, 35, true⟩)]) rfl rfl rfl noStore (none_ok _ _) (by kernel_rfl) (by omega) (kp1 (wr_new (by omega) (by omega))) ?_
 refine PQ.op (dst := (some 57)) (v := (.slice (some ⟨(n4 + 1), 0, none⟩) 1 0)) (n1 := (n4 + 2)) (d1 := [((n4 + 1), some ⟨[[(.int .i64 49157), (.string (bstr (be4 x)))]], 2, 35, true⟩)]) rfl rfl rfl _ (seen_any (V := [(n4, some ⟨[[(.int .i64 49157), (.string (bstr (be4 x)))]], 2, 35, true⟩)]) (D := [(n1, some ⟨[[(.int .i64 49153), (.string (bstr (be4 x ++ (be2 5 ++ (be2 8 ++ (be4 0#32 ++ []))))))]], 2, 35, true⟩), (in1, some ⟨[[(.int .i64 49153), (.string (bstr (be4 x ++ (be2 5 ++ (be2 8 ++ (be4 0#32 ++ []))))))]], 2, 35, true⟩), ((n + 2), some ⟨[(xAc310 x)], 15, 53, true⟩), ((n + 1), some ⟨[xAc39], 15, 53, true⟩), (n, some ⟨[(xAc38 x k)], 15, 53, true⟩)]) (by kernel_rfl)) (r_append0 rfl rfl rfl rfl rfl rfl rfl rfl rfl rfl (by decide) get_here (of_decide_eq_true (by kernel_rfl))) (by omega) (kp1 (wr_new (by omega) (by omega))) ?_
 refine PQ.pure (dst := (some 58)) (v := (.pointer (some ⟨(n + 2), 0, some 11⟩))) rfl rfl rfl noStore (none_ok _ _) rfl ?_
 refine PQ.op (dst := none) (v := (.tuple #[])) (n1 := (n4 + 2)) (d1 := [((n + 2), some ⟨[(xAc35 x n4)], 15, 53, true⟩)]) rfl rfl rfl _ (seen_any (V := [((n4 + 1), some ⟨[[(.int .i64 49157), (.string (bstr (be4 x)))]], 2, 35, true⟩), (n4, some ⟨[[(.int .i64 49157), (.string (bstr (be4 x)))]], 2, 35, true⟩)]) (D := [(n1, some ⟨[[(.int .i64 49153), (.string (bstr (be4 x ++ (be2 5 ++ (be2 8 ++ (be4 0#32 ++ []))))))]], 2, 35, true⟩), (in1, some ⟨[[(.int .i64 49153), (.string (bstr (be4 x ++ (be2 5 ++ (be2 8 ++ (be4 0#32 ++ []))))))]], 2, 35, true⟩), ((n + 2), some ⟨[(xAc310 x)], 15, 53, true⟩), ((n + 1), some ⟨[xAc39], 15, 53, true⟩), (n, some ⟨[(xAc38 x k)], 15, 53, true⟩)]) (by kernel_rfl)) (r_store rfl rfl rfl rfl rfl rfl rfl (gt4 (by omega) get_here) rfl rfl (Nat.le_of_ble_eq_true rfl) rfl) (by omega) (kp1 (wr_tight (by kernel_rfl) (by omega))) ?_
 refine PQ.done (d := [((n + 2), some ⟨[(xAc35 x n4)], 15, 53, true⟩), ((n4 + 1), some ⟨[[(.int .i64 49157), (.string (bstr (be4 x)))]], 2, 35, true⟩), (n4, some ⟨[[(.int .i64 49157), (.string (bstr (be4 x)))]], 2, 35, true⟩)]) (by kernel_rfl) ?_
 intro _
 refine RA.weaken (D' := [((n + 2), some ⟨[(xAc35 x n4)], 15, 53, true⟩), ((n4 + 1), some ⟨[[(.int .i64 49157), (.string (bstr (be4 x)))]], 2, 35, true⟩), (n4, some ⟨[[(.int .i64 49157), (.string (bstr (be4 x)))]], 2, 35, true⟩), (n1, some ⟨[[(.int .i64 49153), (.string (bstr (be4 x ++ (be2 5 ++ (be2 8 ++ (be4 0#32 ++ []))))))]], 2, 35, true⟩), (in1, some ⟨[[(.int .i64 49153), (.string (bstr (be4 x ++ (be2 5 ++ (be2 8 ++ (be4 0#32 ++ []))))))]], 2, 35, true⟩), ((n + 1), some ⟨[xAc39], 15, 53, true⟩), (n, some ⟨[(xAc38 x k)], 15, 53, true⟩)]) hd (Less.of (fac (mm (fun _ => get_here) (fun _ => get_here)) (fac (mm (fun _ => (get_there (by omega) get_here)) (fun _ => (get_there (by omega) get_here))) (fac (mm (fun _ => (gt2 (by omega) get_here)) (fun _ => (gt2 (by omega) get_here))) (fac (mm (fun _ => (gt3 (by omega) get_here)) (fun _ => (gt3 (by omega) get_here))) (fac (mm (fun _ => (gt4 (by omega) get_here)) (fun _ => (gt4 (by omega) get_here))) (fac (mm (fun _ => (gt5 (by omega) get_here)) (fun _ => (gt6 (by omega) get_here))) (fac (mm (fun _ => (gt6 (by omega) get_here)) (fun _ => (gt7 (by omega) get_here))) fan))))))) (gone_of (by simp only [goneP, memP, List.cons_append, List.nil_append, true_or, or_true, true_and, and_true, or_false] <;> omega))) ?_
 refine RA.region env_ok ?_
 refine OA.p (some 59) (.int .i64 1) rfl rfl rfl (r_bin rfl rfl rfl (b_add (i64_eq (by omega)))) ?_
 refine OA.p (some 23) (.int .i64 1) rfl rfl rfl rfl ?_
 refine OA.nil ?_
 intro _
 refine RA.unroll hd ?_
 refine RA.seq hd ?_
 refine RA.region env_ok ?_
 refine OA.p (some 24) (.bool false) rfl rfl rfl (r_bin rfl rfl rfl (b_lss rfl)) ?_
 refine OA.nil ?_
 intro _
 refine RA.seq hd ?_
 refine RA.condF rfl ?_
 refine RA.exit env_ok ?_
 intro _
 refine RA.seq hd ?_
 refine RA.region env_ok ?_
 refine OA.p (some 60) (Pt b 0 0) rfl rfl rfl rfl ?_
 refine OA.p (some 61) (Pt b 0 0) rfl rfl rfl rfl ?_
 refine OA.p (some 62) (.agg ⟨(xAc35 x n4)⟩) rfl rfl rfl (r_loadA rfl rfl rfl rfl get_here rfl rfl rfl) ?_
 refine OA.p (some 63) (Pt b 0 0) rfl rfl rfl rfl ?_
 refine OA.p (some 64) (Pt b 0 1) rfl rfl rfl rfl ?_
 refine OA.op1 (dst := none) (v := (.tuple #[])) (n1 := (n4 + 2)) (w := (b, some ⟨[(xAc33 nx x n4)], 17, 103, true⟩)) rfl rfl rfl (r_store rfl rfl rfl rfl rfl rfl rfl (gt7 (by omega) hb) rfl rfl (Nat.le_of_ble_eq_true rfl) rfl) (by omega) ?_
 refine OA.p (some 65) (Pt b 0 0) rfl rfl rfl rfl ?_
 refine OA.p (some 66) (Pt b 0 16) rfl rfl rfl rfl ?_
 refine OA.op1 (dst := none) (v := (.tuple #[])) (n1 := (n4 + 2)) (w := (b, some ⟨[(xAc33 nx x n4)], 17, 103, true⟩)) rfl rfl rfl (r_store rfl rfl rfl rfl rfl rfl rfl get_here rfl rfl (Nat.le_of_ble_eq_true rfl) rfl) (by omega) ?_
 refine OA.nil ?_
 intro _
 refine RA.weaken (D' := [(b, some ⟨[(xAc33 nx x n4)], 17, 103, true⟩), ((n + 2), some ⟨[(xAc35 x n4)], 15, 53, true⟩), ((n4 + 1), some ⟨[[(.int .i64 49157), (.string (bstr (be4 x)))]], 2, 35, true⟩), (n4, some ⟨[[(.int .i64 49157), (.string (bstr (be4 x)))]], 2, 35, true⟩), (n1, some ⟨[[(.int .i64 49153), (.string (bstr (be4 x ++ (be2 5 ++ (be2 8 ++ (be4 0#32 ++ []))))))]], 2, 35, true⟩), (in1, some ⟨[[(.int .i64 49153), (.string (bstr (be4 x ++ (be2 5 ++ (be2 8 ++ (be4 0#32 ++ []))))))]], 2, 35, true⟩), ((n + 1), some ⟨[xAc39], 15, 53, true⟩), (n, some ⟨[(xAc38 x k)], 15, 53, true⟩)]) hd (Less.of (fac (mm (fun _ => get_here) (fun _ => get_here)) (fac (mm (fun _ => (get_there (by omega) get_here)) (fun _ => (gt2 (by omega) get_here))) (fac (mm (fun _ => (gt2 (by omega) get_here)) (fun _ => (gt3 (by omega) get_here))) (fac (mm (fun _ => (gt3 (by omega) get_here)) (fun _ => (gt4 (by omega) get_here))) (fac (mm (fun _ => (gt4 (by omega) get_here)) (fun _ => (gt5 (by omega) get_here))) (fac (mm (fun _ => (gt5 (by omega) get_here)) (fun _ => (gt6 (by omega) get_here))) (fac (mm (fun _ => (gt6 (by omega) get_here)) (fun _ => (gt7 (by omega) get_here))) (fac (mm (fun _ => (gt7 (by omega) get_here)) (fun _ => (gt8 (by omega) get_here))) fan)))))))) (gone_of (by simp only [goneP, memP, List.cons_append, List.nil_append, true_or, or_true, true_and, and_true, or_false] <;> omega))) ?_
 refine RA.rebase [(0, (Pt b 0 0)), (1, (.agg ⟨(xAc38 x k)⟩)), (2, (.slice (some ⟨j, 0, none⟩) 1 0)), (4, (Pt n 0 0)), (6, (.pointer (some ⟨(n + 1), 0, some 0⟩))), (7, (.pointer (some ⟨(n + 2), 0, some 0⟩))), (8, (.int .i64 0)), (9, (Pt n1 0 0)), (10, (W x)), (13, (.string (ByteArray.mk #[]))), (15, (.bool false)), (21, (.slice (some ⟨in1, 0, none⟩) 1 0)), (22, (.int .i64 1)), (23, (.int .i64 1)), (24, (.bool false)), (44, (.bool false))] ⟨rfl, rfl, rfl, rfl, rfl, rfl, rfl, rfl, rfl, rfl, rfl, rfl, rfl, rfl, rfl, rfl, trivial⟩ (fun τr5 => ?_)
 refine RA.seq hd ?_
 refine RA.region env_ok ?_
 refine OA.p (some 67) (Pt b 0 0) rfl rfl rfl rfl ?_
 refine OA.p (some 68) (Pt b 0 0) rfl rfl rfl rfl ?_
 refine OA.p (some 69) (Pt b 0 0) rfl rfl rfl rfl ?_
 refine OA.p (some 70) (W nx) rfl rfl rfl (r_load1 rfl rfl rfl rfl rfl get_here rfl rfl) ?_
 refine OA.p (some 71) (W (nx + (1#32))) rfl rfl rfl (r_bin rfl rfl rfl (b_addW nx (1#32))) ?_
 refine OA.p (some 72) (Pt b 0 0) rfl rfl rfl rfl ?_
 refine OA.p (some 73) (Pt b 0 0) rfl rfl rfl rfl ?_
 refine OA.op1 (dst := none) (v := (.tuple #[])) (n1 := (n4 + 2)) (w := (b, some ⟨[(xAc31 nx x n4)], 17, 103, true⟩)) rfl rfl rfl (r_store rfl rfl rfl rfl rfl rfl rfl get_here rfl rfl (Nat.le_of_ble_eq_true rfl) rfl) (by omega) ?_
 refine OA.nil ?_
 intro _
 refine RA.weaken (D' := [(b, some ⟨[(xAc31 nx x n4)], 17, 103, true⟩), ((n + 2), some ⟨[(xAc35 x n4)], 15, 53, true⟩), ((n4 + 1), some ⟨[[(.int .i64 49157), (.string (bstr (be4 x)))]], 2, 35, true⟩), (n4, some ⟨[[(.int .i64 49157), (.string (bstr (be4 x)))]], 2, 35, true⟩), (n1, some ⟨[[(.int .i64 49153), (.string (bstr (be4 x ++ (be2 5 ++ (be2 8 ++ (be4 0#32 ++ []))))))]], 2, 35, true⟩), (in1, some ⟨[[(.int .i64 49153), (.string (bstr (be4 x ++ (be2 5 ++ (be2 8 ++ (be4 0#32 ++ []))))))]], 2, 35, true⟩), ((n + 1), some ⟨[xAc39], 15, 53, true⟩), (n, some ⟨[(xAc38 x k)], 15, 53, true⟩)]) hd (Less.of (fac (mm (fun _ => get_here) (fun _ => get_here)) (fac (mm (fun _ => (get_there (by omega) get_here)) (fun _ => (gt2 (by omega) get_here))) (fac (mm (fun _ => (gt2 (by omega) get_here)) (fun _ => (gt3 (by omega) get_here))) (fac (mm (fun _ => (gt3 (by omega) get_here)) (fun _ => (gt4 (by omega) get_here))) (fac (mm (fun _ => (gt4 (by omega) get_here)) (fun _ => (gt5 (by omega) get_here))) (fac (mm (fun _ => (gt5 (by omega) get_here)) (fun _ => (gt6 (by omega) get_here))) (fac (mm (fun _ => (gt6 (by omega) get_here)) (fun _ => (gt7 (by omega) get_here))) (fac (mm (fun _ => (gt7 (by omega) get_here)) (fun _ => (gt8 (by omega) get_here))) fan)))))))) (gone_of (by simp only [goneP, memP, List.cons_append, List.nil_append, true_or, or_true, true_and, and_true, or_false] <;> omega))) ?_
 refine RA.seq hd ?_
 refine RA.region env_ok ?_
 refine OA.p (some 74) (.agg ⟨(xAc35 x n4)⟩) rfl rfl rfl (r_loadA rfl rfl rfl rfl (get_there (by omega) get_here) rfl rfl rfl) ?_
 refine OA.op1 (dst := none) (v := (.tuple #[])) (n1 := (n4 + 2)) (w := ((n + 1), some ⟨[(xAc35 x n4)], 15, 53, true⟩)) rfl rfl rfl (r_store rfl rfl rfl rfl rfl rfl rfl (gt6 (by omega) get_here) rfl rfl (Nat.le_of_ble_eq_true rfl) rfl) (by omega) ?_
 refine OA.nil ?_
 intro _
 refine RA.weaken (D' := [((n + 1), some ⟨[(xAc35 x n4)], 15, 53, true⟩), (b, some ⟨[(xAc31 nx x n4)], 17, 103, true⟩), ((n + 2), some ⟨[(xAc35 x n4)], 15, 53, true⟩), ((n4 + 1), some ⟨[[(.int .i64 49157), (.string (bstr (be4 x)))]], 2, 35, true⟩), (n4, some ⟨[[(.int .i64 49157), (.string (bstr (be4 x)))]], 2, 35, true⟩), (n1, some ⟨[[(.int .i64 49153), (.string (bstr (be4 x ++ (be2 5 ++ (be2 8 ++ (be4 0#32 ++ []))))))]], 2, 35, true⟩), (in1, some ⟨[[(.int .i64 49153), (.string (bstr (be4 x ++ (be2 5 ++ (be2 8 ++ (be4 0#32 ++ []))))))]], 2, 35, true⟩), (n, some ⟨[(xAc38 x k)], 15, 53, true⟩)]) hd (Less.of (fac (mm (fun _ => get_here) (fun _ => get_here)) (fac (mm (fun _ => (get_there (by omega) get_here)) (fun _ => (get_there (by omega) get_here))) (fac (mm (fun _ => (gt2 (by omega) get_here)) (fun _ => (gt2 (by omega) get_here))) (fac (mm (fun _ => (gt3 (by omega) get_here)) (fun _ => (gt3 (by omega) get_here))) (fac (mm (fun _ => (gt4 (by omega) get_here)) (fun _ => (gt4 (by omega) get_here))) (fac (mm (fun _ => (gt5 (by omega) get_here)) (fun _ => (gt5 (by omega) get_here))) (fac (mm (fun _ => (gt6 (by omega) get_here)) (fun _ => (gt6 (by omega) get_here))) (fac (mm (fun _ => (gt7 (by omega) get_here)) (fun _ => (gt8 (by omega) get_here))) fan)))))))) (gone_of (by simp only [goneP, memP, List.cons_append, List.nil_append, true_or, or_true, true_and, and_true, or_false] <;> omega))) ?_
 refine RA.ret env_ok ?_
 refine ⟨.inr rfl, [(.agg ⟨(xAc35 x n4)⟩)], (resL_cons (res_cellA rfl rfl rfl get_here rfl rfl rfl) resL_nil), [(b, some ⟨[(xAc31 nx x n4)], 17, 103, true⟩), ((n4 + 1), some ⟨[[(.int .i64 49157), (.string (bstr (be4 x)))]], 2, 35, true⟩)], (Less.of (fac (mm (fun _ => get_here) (fun _ => (get_there (by omega) get_here))) (fac (mm (fun _ => (get_there (by omega) get_here)) (fun _ => (gt3 (by omega) get_here))) fan)) (gone_of (by simp only [goneP, memP, List.cons_append, List.nil_append, true_or, or_true, true_and, and_true, or_false] <;> omega))), ⟨(n4 + 1), by omega, by omega, rfl, rfl⟩⟩

theorem aGive491531F {n : Nat} {σ : Store} (hd : Dom n σ) (x nx  : BitVec 32) (b k j  : Nat) (w : Nat) (hw0 : ¬ w = 0) (hw : w ≤ 255) (hb : σ b = some ⟨[[(W nx), (.int .i64 0), (.int .i64 0), (.int .u32 0), (.int .i64 0), (.int .i64 0), (.int .u32 0), (.string ByteArray.empty), (.int .u32 0), (.int .u32 0), (.int .i64 0), (.int .i64 0), (.slice none 0 0), (.slice none 0 0), (.slice none 0 0), (.slice none 0 0), (.bool false)]], 17, 103, true⟩) (hk : σ k = some ⟨[[(.int .i64 5), (.string (bstr (be4 0#32)))], [(.int .i64 49153), (.string (bstr (be4 x ++ (be2 5 ++ (be2 8 ++ (be4 0#32 ++ []))))))], [(.int .i64 49160), (.string (bstr ((be4 x ++ be4 3#32) ++ be4 4#32)))]], 2, 35, true⟩) (hj : σ j = some ⟨[[(.int .i64 ((w : Nat) : Int))]], 1, 3, true⟩)  : CQ Try.prog noDen 41 [(Pt b 0 0), (.agg ⟨[(.int .i64 193), (.int .i64 0), (W x), (.int .i64 0), (.int .i64 0), (.int .u32 0), (.string ByteArray.empty), (.int .u32 0), (.int .u32 0), (.int .i64 0), (.int .i64 0), (.slice (some ⟨k, 0, none⟩) 3 0), (.slice none 0 0), (.slice none 0 0), (.slice none 0 0)]⟩), (.slice (some ⟨j, 0, none⟩) 1 0)] n σ (fun v n' d => ∃ i, n ≤ i ∧ i < n' ∧ v = (.agg ⟨[(.int .i64 128), (.int .i64 0), (W x), (.int .i64 0), (.int .i64 0), (.int .u32 0), (.string ByteArray.empty), (.int .u32 0), (.int .u32 0), (.int .i64 0), (.int .i64 0), (.slice (some ⟨i, 0, none⟩) 1 0), (.slice none 0 0), (.slice none 0 0), (.slice none 0 0)]⟩) ∧ d = [(b, some ⟨[[(W (nx + 1#32)), (.int .i64 128), (.int .i64 0), (W x), (.int .i64 0), (.int .i64 0), (.int .u32 0), (.string ByteArray.empty), (.int .u32 0), (.int .u32 0), (.int .i64 0), (.int .i64 0), (.slice (some ⟨i, 0, none⟩) 1 0), (.slice none 0 0), (.slice none 0 0), (.slice none 0 0), (.bool true)]], 17, 103, true⟩), (i, some ⟨[[(.int .i64 49155), (.string (bstr (be4 x ++ pL w [])))]], 2, 35, true⟩)]) := by
 have lhb := hd.lt hb
 have lhk := hd.lt hk
 have lhj := hd.lt hj
 refine CQ.body (E := env) env_ok hd rfl rfl (by show _ ≤ _; exact of_decide_eq_true (by kernel_rfl)) ?_
 refine RA.seq hd ?_
 refine RA.region env_ok ?_
 refine OA.op1 (dst := (some 4)) (v := (Pt n 0 0)) (n1 := (n + 1)) (w := (n, some ⟨[(xAc38 x k)], 15, 53, true⟩)) rfl rfl rfl rfl (by omega) ?_
 refine OA.op1 (dst := (some 6)) (v := (.pointer (some ⟨(n + 1), 0, some 0⟩))) (n1 := (n + 2)) (w := ((n + 1), some ⟨[xAc39], 15, 53, true⟩)) rfl rfl rfl rfl (by omega) ?_
 refine OA.nil ?_
 intro _
 refine RA.seq hd ?_
 refine RA.seq hd ?_
 refine RA.region env_ok ?_
 refine OA.p (some 14) (Pt b 0 0) rfl rfl rfl rfl ?_
 refine OA.p (some 15) (.bool false) rfl rfl rfl rfl ?_
 refine OA.nil ?_
 intro _
 refine RA.condF rfl ?_
 refine RA.skip env_ok ?_
 intro _
 refine RA.seq hd ?_
 refine RA.region env_ok ?_
 refine OA.p (some 17) (Pt n 0 2) rfl rfl rfl rfl ?_
 refine OA.p (some 18) (W x) rfl rfl rfl (r_load1 rfl rfl rfl rfl rfl (get_there (by omega) get_here) rfl rfl) ?_
 refine OA.p (some 19) (.agg ⟨(xAc310 x)⟩) rfl rfl rfl (by kernel_rfl) ?_
 refine OA.op1 (dst := (some 7)) (v := (.pointer (some ⟨(n + 2), 0, some 0⟩))) (n1 := (n + 3)) (w := ((n + 2), some ⟨[xAc39], 15, 53, true⟩)) rfl rfl rfl rfl (by omega) ?_
 refine OA.op1 (dst := none) (v := (.tuple #[])) (n1 := (n + 3)) (w := ((n + 2), some ⟨[(xAc310 x)], 15, 53, true⟩)) rfl rfl rfl (r_store rfl rfl rfl rfl rfl rfl rfl get_here rfl rfl (Nat.le_of_ble_eq_true rfl) rfl) (by omega) ?_
 refine OA.nil ?_
 intro _
 refine RA.weaken (D' := [((n + 2), some ⟨[(xAc310 x)], 15, 53, true⟩), ((n + 1), some ⟨[xAc39], 15, 53, true⟩), (n, some ⟨[(xAc38 x k)], 15, 53, true⟩)]) hd (Less.of (fac (mm (fun _ => get_here) (fun _ => get_here)) (fac (mm (fun _ => (get_there (by omega) get_here)) (fun _ => (gt2 (by omega) get_here))) (fac (mm (fun _ => (gt2 (by omega) get_here)) (fun _ => (gt3 (by omega) get_here))) fan))) (gone_of (by simp only [goneP, memP, List.cons_append, List.nil_append, true_or, or_true, true_and, and_true, or_false] <;> omega))) ?_
 refine RA.seq hd ?_
 refine RA.seq hd ?_
 refine RA.region env_ok ?_
 refine OA.p (some 20) (.agg ⟨(xAc38 x k)⟩) rfl rfl rfl (r_loadA rfl rfl rfl rfl (gt2 (by omega) get_here) rfl rfl rfl) ?_
 refine OA.call (dst := (some 21)) (all := [(.agg ⟨(xAc38 x k)⟩)]) rfl rfl rfl rfl rfl rfl rfl rfl (CQ.imp (aAsked49153 (hd.of (by omega) (kb3 (by omega))) x k (gt3 (by omega) hk)) ?_)
 rintro _ n1 _ ⟨in1, p1n1, p2n1, rfl, rfl⟩ hn1
 refine OA.app1 ?_
 refine OA.p (some 22) (.int .i64 1) rfl rfl rfl rfl ?_
 refine OA.p (some 23) (.int .i64 0) rfl rfl rfl rfl ?_
 refine OA.nil ?_
 intro _
 refine RA.block ?_
 refine RA.unroll hd ?_
 refine RA.seq hd ?_
 refine RA.region env_ok ?_
 refine OA.p (some 24) (.bool true) rfl rfl rfl (r_bin rfl rfl rfl (b_lss rfl)) ?_
 refine OA.nil ?_
 intro _
 refine RA.seq hd ?_
 refine RA.condT rfl ?_
 refine RA.skip env_ok ?_
 intro _
 refine RA.seq hd ?_
 refine RA.block ?_
 refine RA.seq hd ?_
 refine RA.region env_ok ?_
 refine OA.p (some 25) (.int .i64 0) rfl rfl rfl rfl ?_
 refine OA.p (some 26) (Pt in1 0 0) rfl rfl rfl (r_iaS (l := 0) rfl rfl rfl rfl rfl rfl (by omega) (by omega) get_here rfl (by omega)) ?_
 refine OA.p (some 27) (.agg ⟨[(.int .i64 49153), (.string (bstr (be4 x ++ (be2 5 ++ (be2 8 ++ (be4 0#32 ++ []))))))]⟩) rfl rfl rfl (r_loadA rfl rfl rfl rfl get_here rfl rfl rfl) ?_
 refine OA.op1 (dst := (some 9)) (v := (Pt n1 0 0)) (n1 := (n1 + 1)) (w := (n1, some ⟨[[(.int .i64 0), (.string ByteArray.empty)]], 2, 35, true⟩)) rfl rfl rfl rfl (by omega) ?_
 refine OA.p (some 8) (.int .i64 0) rfl rfl rfl rfl ?_
 refine OA.op1 (dst := none) (v := (.tuple #[])) (n1 := (n1 + 1)) (w := (n1, some ⟨[[(.int .i64 49153), (.string (bstr (be4 x ++ (be2 5 ++ (be2 8 ++ (be4 0#32 ++ []))))))]], 2, 35, true⟩)) rfl rfl rfl (r_store rfl rfl rfl rfl rfl rfl rfl get_here rfl rfl (Nat.le_of_ble_eq_true rfl) rfl) (by omega) ?_
 refine OA.nil ?_
 intro _
 refine RA.weaken (D' := [(n1, some ⟨[[(.int .i64 49153), (.string (bstr (be4 x ++ (be2 5 ++ (be2 8 ++ (be4 0#32 ++ []))))))]], 2, 35, true⟩), (in1, some ⟨[[(.int .i64 49153), (.string (bstr (be4 x ++ (be2 5 ++ (be2 8 ++ (be4 0#32 ++ []))))))]], 2, 35, true⟩), ((n + 2), some ⟨[(xAc310 x)], 15, 53, true⟩), ((n + 1), some ⟨[xAc39], 15, 53, true⟩), (n, some ⟨[(xAc38 x k)], 15, 53, true⟩)]) hd (Less.of (fac (mm (fun _ => get_here) (fun _ => get_here)) (fac (mm (fun _ => (get_there (by omega) get_here)) (fun _ => (gt2 (by omega) get_here))) (fac (mm (fun _ => (gt2 (by omega) get_here)) (fun _ => (gt3 (by omega) get_here))) (fac (mm (fun _ => (gt3 (by omega) get_here)) (fun _ => (gt4 (by omega) get_here))) (fac (mm (fun _ => (gt4 (by omega) get_here)) (fun _ => (gt5 (by omega) get_here))) fan))))) (gone_of (by simp only [goneP, memP, List.cons_append, List.nil_append, true_or, or_true, true_and, and_true, or_false] <;> omega))) ?_
 refine RA.seq hd ?_
 refine RA.region env_ok ?_
 refine OA.p (some 29) (.agg ⟨[(.int .i64 49153), (.string (bstr (be4 x ++ (be2 5 ++ (be2 8 ++ (be4 0#32 ++ []))))))]⟩) rfl rfl rfl (r_loadA rfl rfl rfl rfl get_here rfl rfl rfl) ?_
 refine OA.callP (dst := (some 30)) (all := [(.agg ⟨[(.int .i64 49153), (.string (bstr (be4 x ++ (be2 5 ++ (be2 8 ++ (be4 0#32 ++ []))))))]⟩)]) (v := (.tuple ⟨[(W x), (W 0#32), (.bool true)]⟩)) (hd.of (by omega) (kb5 (by omega))) rfl rfl rfl rfl rfl rfl rfl rfl (cReq49153 x) ?_
 intro n2 hn2
 refine OA.p (some 28) (.tuple ⟨[(W x), (W 0#32), (.bool true)]⟩) rfl rfl rfl rfl ?_
 refine OA.p (some 31) (W x) rfl rfl rfl rfl ?_
 refine OA.p (some 32) (W 0#32) rfl rfl rfl rfl ?_
 refine OA.p (some 33) (.bool true) rfl rfl rfl rfl ?_
 refine OA.p (some 10) (W x) rfl rfl rfl rfl ?_
 refine OA.p (some 11) (W 0#32) rfl rfl rfl rfl ?_
 refine OA.p (some 12) (.bool true) rfl rfl rfl rfl ?_
 refine OA.nil ?_
 intro _
 refine RA.rebase [(0, (Pt b 0 0)), (1, (.agg ⟨(xAc38 x k)⟩)), (2, (.slice (some ⟨j, 0, none⟩) 1 0)), (4, (Pt n 0 0)), (6, (.pointer (some ⟨(n + 1), 0, some 0⟩))), (7, (.pointer (some ⟨(n + 2), 0, some 0⟩))), (8, (.int .i64 0)), (9, (Pt n1 0 0)), (10, (W x)), (15, (.bool false)), (21, (.slice (some ⟨in1, 0, none⟩) 1 0)), (22, (.int .i64 1)), (23, (.int .i64 0)), (24, (.bool true))] ⟨rfl, rfl, rfl, rfl, rfl, rfl, rfl, rfl, rfl, rfl, rfl, rfl, rfl, rfl, trivial⟩ (fun τr3 => ?_)
 refine RA.seq hd ?_
 refine RA.region env_ok ?_
 refine OA.p (some 13) (.string (ByteArray.mk #[])) rfl rfl rfl rfl ?_
 refine OA.nil ?_
 intro _
 refine RA.seq hd ?_
 refine RA.seq hd ?_
 refine RA.region env_ok ?_
 refine OA.p (some 34) (.int .i64 0) rfl rfl rfl rfl ?_
 refine OA.p (some 35) (.slice (some ⟨j, 0, none⟩) 1 0) rfl rfl rfl rfl ?_
 refine OA.p (some 36) (.int .i64 1) rfl rfl rfl rfl ?_
 refine OA.p (some 37) (.bool true) rfl rfl rfl (r_bin rfl rfl rfl (b_lss rfl)) ?_
 refine OA.p (some 38) (.bool true) rfl rfl rfl rfl ?_
 refine OA.p (some 39) (.slice (some ⟨j, 0, none⟩) 1 0) rfl rfl rfl rfl ?_
 refine OA.p (some 40) (.int .i64 0) rfl rfl rfl rfl ?_
 refine OA.p (some 41) (Pt j 0 0) rfl rfl rfl (r_iaS (l := 0) rfl rfl rfl rfl rfl rfl (by omega) (by omega) (gt5 (by omega) hj) rfl (by omega)) ?_
 refine OA.p (some 42) (.int .i64 ((w : Nat) : Int)) rfl rfl rfl (r_load1 rfl rfl rfl rfl rfl (gt5 (by omega) hj) rfl rfl) ?_
 have hc1 : ((w : Nat) : Int) ≠ 0 := Classical.byContradiction (fun hdd => by exfalso; omega)
 refine OA.p (some 43) (.bool true) rfl rfl rfl (Eq.trans (r_bin rfl rfl rfl (b_neq rfl)) (dT hc1)) ?_
 refine OA.p (some 44) (.bool true) rfl rfl rfl rfl ?_
 refine OA.nil ?_
 intro _
 refine RA.condT rfl ?_
 refine RA.region env_ok ?_
 refine OA.p (some 45) (.slice (some ⟨j, 0, none⟩) 1 0) rfl rfl rfl rfl ?_
 refine OA.p (some 46) (.int .i64 0) rfl rfl rfl rfl ?_
 refine OA.p (some 47) (Pt j 0 0) rfl rfl rfl (r_iaS (l := 0) rfl rfl rfl rfl rfl rfl (by omega) (by omega) (gt5 (by omega) hj) rfl (by omega)) ?_
 refine OA.p (some 48) (.int .i64 ((w : Nat) : Int)) rfl rfl rfl (r_load1 rfl rfl rfl rfl rfl (gt5 (by omega) hj) rfl rfl) ?_
 refine OA.p (some 49) (.agg ⟨[(.int .i64 ((w : Nat) : Int)), (.string ByteArray.empty)]⟩) rfl rfl rfl (by kernel_rfl) ?_
 refine OA.callP (dst := (some 50)) (all := [(.agg ⟨[(.int .i64 ((w : Nat) : Int)), (.string ByteArray.empty)]⟩)]) (v := (.string (bstr (pL w [])))) (hd.of (by omega) (kb5 (by omega))) rfl rfl rfl rfl rfl rfl rfl rfl (lCPut w [] (by omega) (by decide)) ?_
 intro n4 hn4
 refine OA.p (some 13) (.string (bstr (pL w []))) rfl rfl rfl rfl ?_
 refine OA.nil ?_
 intro _
 refine RA.par (md := [some [], some [(n + 2)], some [], some [], none, some [], none, some [], none]) env_ok (hd.of (by omega) (kb5 (by omega))) (by kernel_rfl) ?_
 refine PQ.pure (dst := (some 51)) (v := (.pointer (some ⟨(n + 2), 0, some 11⟩))) rfl rfl rfl noStore (none_ok _ _) rfl ?_
 refine PQ.pure (dst := (some 52)) (v := (.slice none 0 0)) rfl rfl rfl (app [((n + 2), some ⟨[(xAc310 x)], 15, 53, true⟩)] noStore) (seen_one (V := []) (D := [(n1, some ⟨[[(.int .i64 49153), (.string (bstr (be4 x ++ (be2 5 ++ (be2 8 ++ (be4 0#32 ++ []))))))]], 2, 35, true⟩), (in1, some ⟨[[(.int .i64 49153), (.string (bstr (be4 x ++ (be2 5 ++ (be2 8 ++ (be4 0#32 ++ []))))))]], 2, 35, true⟩), ((n + 2), some ⟨[(xAc310 x)], 15, 53, true⟩), ((n + 1), some ⟨[xAc39], 15, 53, true⟩), (n, some ⟨[(xAc38 x k)], 15, 53, true⟩)]) (by kernel_rfl) (gt2 (by omega) get_here)) (r_load1 rfl rfl rfl rfl rfl get_here rfl rfl) ?_
 refine PQ.pure (dst := (some 53)) (v := (W x)) rfl rfl rfl noStore (none_ok _ _) rfl ?_
 refine PQ.pure (dst := (some 54)) (v := (.string (bstr (pL w [])))) rfl rfl rfl noStore (none_ok _ _) rfl ?_
 refine PQ.callP (dst := (some 55)) (all := [(W x), (.string (bstr (pL w [])))]) (v := (.agg ⟨[(.int .i64 49155), (.string (bstr (be4 x ++ pL w [])))]⟩)) _ (hd.of (by omega) (kb5 (by omega))) rfl rfl rfl rfl rfl rfl rfl rfl (seen_any (V := []) (D := [(n1, some ⟨[[(.int .i64 49153), (.string (bstr (be4 x ++ (be2 5 ++ (be2 8 ++ (be4 0#32 ++ []))))))]], 2, 35, true⟩), (in1, some ⟨[[(.int .i64 49153), (.string (bstr (be4 x ++ (be2 5 ++ (be2 8 ++ (be4 0#32 ++ []))))))]], 2, 35, true⟩), ((n + 2), some ⟨[(xAc310 x)], 15, 53, true⟩), ((n + 1), some ⟨[xAc39], 15, 53, true⟩), (n, some ⟨[(xAc38 x k)], 15, 53, true⟩)]) (by kernel_rfl)) (aAns1 x (pL w []) (pL0_len w)) ?_
 intro n5 hn5
 refine PQ.op (dst := (some 56)) (v := (.slice (some ⟨n5, 0, none⟩) 1 0)) (n1 := (n5 + 1)) (d1 := [(n5, some ⟨[[(.int .i64 49155), (.string (bstr (be4 x ++ pL w [])))]], 2, 35, true⟩)]) rfl rfl rfl noStore (none_ok _ _) (by kernel_rfl) (by omega) (kp1 (wr_new (by omega) (by omega))) ?_
 refine PQ.op (dst := (some 57)) (v := (.slice (some ⟨(n5 + 1), 0, none⟩) 1 0)) (n1 := (n5 + 2)) (d1 := [((n5 + 1), some ⟨[[(.int .i64 49155), (.string (bstr (be4 x ++ pL w [])))]], 2, 35, true⟩)]) rfl rfl rfl _ (seen_any (V := [(n5, some ⟨[[(.int .i64 49155), (.string (bstr (be4 x ++ pL w [])))]], 2, 35, true⟩)]) (D := [(n1, some ⟨[[(.int .i64 49153), (.string (bstr (be4 x ++ (be2 5 ++ (be2 8 ++ (be4 0#32 ++ []))))))]], 2, 35, true⟩), (in1, some ⟨[[(.int .i64 49153), (.string (bstr (be4 x ++ (be2 5 ++ (be2 8 ++ (be4 0#32 ++ []))))))]], 2, 35, true⟩), ((n + 2), some ⟨[(xAc310 x)], 15, 53, true⟩), ((n + 1), some ⟨[xAc39], 15, 53, true⟩), (n, some ⟨[(xAc38 x k)], 15, 53, true⟩)]) (by kernel_rfl)) (r_append0 rfl rfl rfl rfl rfl rfl rfl rfl rfl rfl (by decide) get_here (of_decide_eq_true (by kernel_rfl))) (by omega) (kp1 (wr_new (by omega) (by omega))) ?_
 refine PQ.pure (dst := (some 58)) (v := (.pointer (some ⟨(n + 2), 0, some 11⟩))) rfl rfl rfl noStore (none_ok _ _) rfl ?_
 refine PQ.op (dst := none) (v := (.tuple #[])) (n1 := (n5 + 2)) (d1 := [((n + 2), some ⟨[(xAc36 x n5)], 15, 53, true⟩)]) rfl rfl rfl _ (seen_any (V := [((n5 + 1), some ⟨[[(.int .i64 49155), (.string (bstr (be4 x ++ pL w [])))]], 2, 35, true⟩), (n5, some ⟨[[(.int .i64 49155), (.string (bstr (be4 x ++ pL w [])))]], 2, 35, true⟩)]) (D := [(n1, some ⟨[[(.int .i64 49153), (.string (bstr (be4 x ++ (be2 5 ++ (be2 8 ++ (be4 0#32 ++ []))))))]], 2, 35, true⟩), (in1, some ⟨[[(.int .i64 49153), (.string (bstr (be4 x ++ (be2 5 ++ (be2 8 ++ (be4 0#32 ++ []))))))]], 2, 35, true⟩), ((n + 2), some ⟨[(xAc310 x)], 15, 53, true⟩), ((n + 1), some ⟨[xAc39], 15, 53, true⟩), (n, some ⟨[(xAc38 x k)], 15, 53, true⟩)]) (by kernel_rfl)) (r_store rfl rfl rfl rfl rfl rfl rfl (gt4 (by omega) get_here) rfl rfl (Nat.le_of_ble_eq_true rfl) rfl) (by omega) (kp1 (wr_tight (by kernel_rfl) (by omega))) ?_
 refine PQ.done (d := [((n + 2), some ⟨[(xAc36 x n5)], 15, 53, true⟩), ((n5 + 1), some ⟨[[(.int .i64 49155), (.string (bstr (be4 x ++ pL w [])))]], 2, 35, true⟩), (n5, some ⟨[[(.int .i64 49155), (.string (bstr (be4 x ++ pL w [])))]], 2, 35, true⟩)]) (by kernel_rfl) ?_
 intro _
 refine RA.weaken (D' := [((n + 2), some ⟨[(xAc36 x n5)], 15, 53, true⟩), ((n5 + 1), some ⟨[[(.int .i64 49155), (.string (bstr (be4 x ++ pL w [])))]], 2, 35, true⟩), (n5, some ⟨[[(.int .i64 49155), (.string (bstr (be4 x ++ pL w [])))]], 2, 35, true⟩), (n1, some ⟨[[(.int .i64 49153), (.string (bstr (be4 x ++ (be2 5 ++ (be2 8 ++ (be4 0#32 ++ []))))))]], 2, 35, true⟩), (in1, some ⟨[[(.int .i64 49153), (.string (bstr (be4 x ++ (be2 5 ++ (be2 8 ++ (be4 0#32 ++ []))))))]], 2, 35, true⟩), ((n + 1), some ⟨[xAc39], 15, 53, true⟩), (n, some ⟨[(xAc38 x k)], 15, 53, true⟩)]) hd (Less.of (fac (mm (fun _ => get_here) (fun _ => get_here)) (fac (mm (fun _ => (get_there (by omega) get_here)) (fun _ => (get_there (by omega) get_here))) (fac (mm (fun _ => (gt2 (by omega) get_here)) (fun _ => (gt2 (by omega) get_here))) (fac (mm (fun _ => (gt3 (by omega) get_here)) (fun _ => (gt3 (by omega) get_here))) (fac (mm (fun _ => (gt4 (by omega) get_here)) (fun _ => (gt4 (by omega) get_here))) (fac (mm (fun _ => (gt5 (by omega) get_here)) (fun _ => (gt6 (by omega) get_here))) (fac (mm (fun _ => (gt6 (by omega) get_here)) (fun _ => (gt7 (by omega) get_here))) fan))))))) (gone_of (by simp only [goneP, memP, List.cons_append, List.nil_append, true_or, or_true, true_and, and_true, or_false] <;> omega))) ?_
 refine RA.rebase [(0, (Pt b 0 0)), (1, (.agg ⟨(xAc38 x k)⟩)), (2, (.slice (some ⟨j, 0, none⟩) 1 0)), (4, (Pt n 0 0)), (6, (.pointer (some ⟨(n + 1), 0, some 0⟩))), (7, (.pointer (some ⟨(n + 2), 0, some 0⟩))), (8, (.int .i64 0)), (9, (Pt n1 0 0)), (10, (W x)), (13, (.string (bstr (pL w [])))), (15, (.bool false)), (21, (.slice (some ⟨in1, 0, none⟩) 1 0)), (22, (.int .i64 1)), (23, (.int .i64 0)), (24, (.bool true)), (44, (.bool true))] ⟨rfl, rfl, rfl, rfl, rfl, rfl, rfl, rfl, rfl, rfl, rfl, rfl, rfl, rfl, rfl, rfl, trivial⟩ (fun τr6 => ?_)
 refine RA.region env_ok ?_
 refine OA.p (some 59) (.int .i64 1) rfl rfl rfl (r_bin rfl rfl rfl (b_add (i64_eq (by omega)))) ?_
 refine OA.p (some 23) (.int .i64 1) rfl rfl rfl rfl ?_
 refine OA.nil ?_
 intro _
 refine RA.unroll hd ?_
 refine RA.seq hd ?_
 refine RA.region env_ok ?_
 refine OA.p (some 24) (.bool false) rfl rfl rfl (r_bin rfl rfl rfl (b_lss rfl)) ?_
 refine OA.nil ?_
 intro _
 refine RA.seq hd ?_
 refine RA.condF rfl ?_
 refine RA.exit env_ok ?_
 intro _
 refine RA.seq hd ?_
 refine RA.region env_ok ?_
 refine OA.p (some 60) (Pt b 0 0) rfl rfl rfl rfl ?_
 refine OA.p (some 61) (Pt b 0 0) rfl rfl rfl rfl ?_
 refine OA.p (some 62) (.agg ⟨(xAc36 x n5)⟩) rfl rfl rfl (r_loadA rfl rfl rfl rfl get_here rfl rfl rfl) ?_
 refine OA.p (some 63) (Pt b 0 0) rfl rfl rfl rfl ?_
 refine OA.p (some 64) (Pt b 0 1) rfl rfl rfl rfl ?_
 refine OA.op1 (dst := none) (v := (.tuple #[])) (n1 := (n5 + 2)) (w := (b, some ⟨[[(W nx), (.int .i64 128), (.int .i64 0), (W x), (.int .i64 0), (.int .i64 0), (.int .u32 0), (.string ByteArray.empty), (.int .u32 0), (.int .u32 0), (.int .i64 0), (.int .i64 0), (.slice (some ⟨(n5 + 1), 0, none⟩) 1 0), (.slice none 0 0), (.slice none 0 0), (.slice none 0 0), (.bool false)]], 17, 103, true⟩)) rfl rfl rfl (r_store rfl rfl rfl rfl rfl rfl rfl (gt7 (by omega) hb) rfl rfl (Nat.le_of_ble_eq_true rfl) rfl) (by omega) ?_
 refine OA.p (some 65) (Pt b 0 0) rfl rfl rfl rfl ?_
 refine OA.p (some 66) (Pt b 0 16) rfl rfl rfl rfl ?_
 refine OA.op1 (dst := none) (v := (.tuple #[])) (n1 := (n5 + 2)) (w := (b, some ⟨[(xAc34 nx x n5)], 17, 103, true⟩)) rfl rfl rfl (r_store rfl rfl rfl rfl rfl rfl rfl get_here rfl rfl (Nat.le_of_ble_eq_true rfl) rfl) (by omega) ?_
 refine OA.nil ?_
 intro _
 refine RA.weaken (D' := [(b, some ⟨[(xAc34 nx x n5)], 17, 103, true⟩), ((n + 2), some ⟨[(xAc36 x n5)], 15, 53, true⟩), ((n5 + 1), some ⟨[[(.int .i64 49155), (.string (bstr (be4 x ++ pL w [])))]], 2, 35, true⟩), (n5, some ⟨[[(.int .i64 49155), (.string (bstr (be4 x ++ pL w [])))]], 2, 35, true⟩), (n1, some ⟨[[(.int .i64 49153), (.string (bstr (be4 x ++ (be2 5 ++ (be2 8 ++ (be4 0#32 ++ []))))))]], 2, 35, true⟩), (in1, some ⟨[[(.int .i64 49153), (.string (bstr (be4 x ++ (be2 5 ++ (be2 8 ++ (be4 0#32 ++ []))))))]], 2, 35, true⟩), ((n + 1), some ⟨[xAc39], 15, 53, true⟩), (n, some ⟨[(xAc38 x k)], 15, 53, true⟩)]) hd (Less.of (fac (mm (fun _ => get_here) (fun _ => get_here)) (fac (mm (fun _ => (get_there (by omega) get_here)) (fun _ => (gt2 (by omega) get_here))) (fac (mm (fun _ => (gt2 (by omega) get_here)) (fun _ => (gt3 (by omega) get_here))) (fac (mm (fun _ => (gt3 (by omega) get_here)) (fun _ => (gt4 (by omega) get_here))) (fac (mm (fun _ => (gt4 (by omega) get_here)) (fun _ => (gt5 (by omega) get_here))) (fac (mm (fun _ => (gt5 (by omega) get_here)) (fun _ => (gt6 (by omega) get_here))) (fac (mm (fun _ => (gt6 (by omega) get_here)) (fun _ => (gt7 (by omega) get_here))) (fac (mm (fun _ => (gt7 (by omega) get_here)) (fun _ => (gt8 (by omega) get_here))) fan)))))))) (gone_of (by simp only [goneP, memP, List.cons_append, List.nil_append, true_or, or_true, true_and, and_true, or_false] <;> omega))) ?_
 refine RA.seq hd ?_
 refine RA.region env_ok ?_
 refine OA.p (some 67) (Pt b 0 0) rfl rfl rfl rfl ?_
 refine OA.p (some 68) (Pt b 0 0) rfl rfl rfl rfl ?_
 refine OA.p (some 69) (Pt b 0 0) rfl rfl rfl rfl ?_
 refine OA.p (some 70) (W nx) rfl rfl rfl (r_load1 rfl rfl rfl rfl rfl get_here rfl rfl) ?_
 refine OA.p (some 71) (W (nx + (1#32))) rfl rfl rfl (r_bin rfl rfl rfl (b_addW nx (1#32))) ?_
 refine OA.p (some 72) (Pt b 0 0) rfl rfl rfl rfl ?_
 refine OA.p (some 73) (Pt b 0 0) rfl rfl rfl rfl ?_
 refine OA.op1 (dst := none) (v := (.tuple #[])) (n1 := (n5 + 2)) (w := (b, some ⟨[(xAc32 nx x n5)], 17, 103, true⟩)) rfl rfl rfl (r_store rfl rfl rfl rfl rfl rfl rfl get_here rfl rfl (Nat.le_of_ble_eq_true rfl) rfl) (by omega) ?_
 refine OA.nil ?_
 intro _
 refine RA.weaken (D' := [(b, some ⟨[(xAc32 nx x n5)], 17, 103, true⟩), ((n + 2), some ⟨[(xAc36 x n5)], 15, 53, true⟩), ((n5 + 1), some ⟨[[(.int .i64 49155), (.string (bstr (be4 x ++ pL w [])))]], 2, 35, true⟩), (n5, some ⟨[[(.int .i64 49155), (.string (bstr (be4 x ++ pL w [])))]], 2, 35, true⟩), (n1, some ⟨[[(.int .i64 49153), (.string (bstr (be4 x ++ (be2 5 ++ (be2 8 ++ (be4 0#32 ++ []))))))]], 2, 35, true⟩), (in1, some ⟨[[(.int .i64 49153), (.string (bstr (be4 x ++ (be2 5 ++ (be2 8 ++ (be4 0#32 ++ []))))))]], 2, 35, true⟩), ((n + 1), some ⟨[xAc39], 15, 53, true⟩), (n, some ⟨[(xAc38 x k)], 15, 53, true⟩)]) hd (Less.of (fac (mm (fun _ => get_here) (fun _ => get_here)) (fac (mm (fun _ => (get_there (by omega) get_here)) (fun _ => (gt2 (by omega) get_here))) (fac (mm (fun _ => (gt2 (by omega) get_here)) (fun _ => (gt3 (by omega) get_here))) (fac (mm (fun _ => (gt3 (by omega) get_here)) (fun _ => (gt4 (by omega) get_here))) (fac (mm (fun _ => (gt4 (by omega) get_here)) (fun _ => (gt5 (by omega) get_here))) (fac (mm (fun _ => (gt5 (by omega) get_here)) (fun _ => (gt6 (by omega) get_here))) (fac (mm (fun _ => (gt6 (by omega) get_here)) (fun _ => (gt7 (by omega) get_here))) (fac (mm (fun _ => (gt7 (by omega) get_here)) (fun _ => (gt8 (by omega) get_here))) fan)))))))) (gone_of (by simp only [goneP, memP, List.cons_append, List.nil_append, true_or, or_true, true_and, and_true, or_false] <;> omega))) ?_
 refine RA.seq hd ?_
 refine RA.region env_ok ?_
 refine OA.p (some 74) (.agg ⟨(xAc36 x n5)⟩) rfl rfl rfl (r_loadA rfl rfl rfl rfl (get_there (by omega) get_here) rfl rfl rfl) ?_
 refine OA.op1 (dst := none) (v := (.tuple #[])) (n1 := (n5 + 2)) (w := ((n + 1), some ⟨[(xAc36 x n5)], 15, 53, true⟩)) rfl rfl rfl (r_store rfl rfl rfl rfl rfl rfl rfl (gt6 (by omega) get_here) rfl rfl (Nat.le_of_ble_eq_true rfl) rfl) (by omega) ?_
 refine OA.nil ?_
 intro _
 refine RA.weaken (D' := [((n + 1), some ⟨[(xAc36 x n5)], 15, 53, true⟩), (b, some ⟨[(xAc32 nx x n5)], 17, 103, true⟩), ((n + 2), some ⟨[(xAc36 x n5)], 15, 53, true⟩), ((n5 + 1), some ⟨[[(.int .i64 49155), (.string (bstr (be4 x ++ pL w [])))]], 2, 35, true⟩), (n5, some ⟨[[(.int .i64 49155), (.string (bstr (be4 x ++ pL w [])))]], 2, 35, true⟩), (n1, some ⟨[[(.int .i64 49153), (.string (bstr (be4 x ++ (be2 5 ++ (be2 8 ++ (be4 0#32 ++ []))))))]], 2, 35, true⟩), (in1, some ⟨[[(.int .i64 49153), (.string (bstr (be4 x ++ (be2 5 ++ (be2 8 ++ (be4 0#32 ++ []))))))]], 2, 35, true⟩), (n, some ⟨[(xAc38 x k)], 15, 53, true⟩)]) hd (Less.of (fac (mm (fun _ => get_here) (fun _ => get_here)) (fac (mm (fun _ => (get_there (by omega) get_here)) (fun _ => (get_there (by omega) get_here))) (fac (mm (fun _ => (gt2 (by omega) get_here)) (fun _ => (gt2 (by omega) get_here))) (fac (mm (fun _ => (gt3 (by omega) get_here)) (fun _ => (gt3 (by omega) get_here))) (fac (mm (fun _ => (gt4 (by omega) get_here)) (fun _ => (gt4 (by omega) get_here))) (fac (mm (fun _ => (gt5 (by omega) get_here)) (fun _ => (gt5 (by omega) get_here))) (fac (mm (fun _ => (gt6 (by omega) get_here)) (fun _ => (gt6 (by omega) get_here))) (fac (mm (fun _ => (gt7 (by omega) get_here)) (fun _ => (gt8 (by omega) get_here))) fan)))))))) (gone_of (by simp only [goneP, memP, List.cons_append, List.nil_append, true_or, or_true, true_and, and_true, or_false] <;> omega))) ?_
 refine RA.ret env_ok ?_
 refine ⟨.inr rfl, [(.agg ⟨(xAc36 x n5)⟩)], (resL_cons (res_cellA rfl rfl rfl get_here rfl rfl rfl) resL_nil), [(b, some ⟨[(xAc32 nx x n5)], 17, 103, true⟩), ((n5 + 1), some ⟨[[(.int .i64 49155), (.string (bstr (be4 x ++ pL w [])))]], 2, 35, true⟩)], (Less.of (fac (mm (fun _ => get_here) (fun _ => (get_there (by omega) get_here))) (fac (mm (fun _ => (get_there (by omega) get_here)) (fun _ => (gt3 (by omega) get_here))) fan)) (gone_of (by simp only [goneP, memP, List.cons_append, List.nil_append, true_or, or_true, true_and, and_true, or_false] <;> omega))), ⟨(n5 + 1), by omega, by omega, rfl, rfl⟩⟩

theorem aGive491531T {n : Nat} {σ : Store} (hd : Dom n σ) (x nx lt : BitVec 32) (b k j ka : Nat) (w : Nat) (hw0 : ¬ w = 0) (hw : w ≤ 255) (hb : σ b = some ⟨[[(W nx), (.int .i64 128), (.int .i64 0), (W lt), (.int .i64 0), (.int .i64 0), (.int .u32 0), (.string ByteArray.empty), (.int .u32 0), (.int .u32 0), (.int .i64 0), (.int .i64 0), (.slice (some ⟨ka, 0, none⟩) 1 0), (.slice none 0 0), (.slice none 0 0), (.slice none 0 0), (.bool true)]], 17, 103, true⟩) (hk : σ k = some ⟨[[(.int .i64 5), (.string (bstr (be4 0#32)))], [(.int .i64 49153), (.string (bstr (be4 x ++ (be2 5 ++ (be2 8 ++ (be4 0#32 ++ []))))))], [(.int .i64 49160), (.string (bstr ((be4 x ++ be4 3#32) ++ be4 4#32)))]], 2, 35, true⟩) (hj : σ j = some ⟨[[(.int .i64 ((w : Nat) : Int))]], 1, 3, true⟩)  : CQ Try.prog noDen 41 [(Pt b 0 0), (.agg ⟨[(.int .i64 193), (.int .i64 0), (W x), (.int .i64 0), (.int .i64 0), (.int .u32 0), (.string ByteArray.empty), (.int .u32 0), (.int .u32 0), (.int .i64 0), (.int .i64 0), (.slice (some ⟨k, 0, none⟩) 3 0), (.slice none 0 0), (.slice none 0 0), (.slice none 0 0)]⟩), (.slice (some ⟨j, 0, none⟩) 1 0)] n σ (fun v n' d => ∃ i, n ≤ i ∧ i < n' ∧ v = (.agg ⟨[(.int .i64 128), (.int .i64 0), (W x), (.int .i64 0), (.int .i64 0), (.int .u32 0), (.string ByteArray.empty), (.int .u32 0), (.int .u32 0), (.int .i64 0), (.int .i64 0), (.slice (some ⟨i, 0, none⟩) 1 0), (.slice none 0 0), (.slice none 0 0), (.slice none 0 0)]⟩) ∧ d = [(b, some ⟨[[(W (nx + 1#32)), (.int .i64 128), (.int .i64 0), (W x), (.int .i64 0), (.int .i64 0), (.int .u32 0), (.string ByteArray.empty), (.int .u32 0), (.int .u32 0), (.int .i64 0), (.int .i64 0), (.slice (some ⟨i, 0, none⟩) 1 0), (.slice none 0 0), (.slice none 0 0), (.slice none 0 0), (.bool true)]], 17, 103, true⟩), (i, some ⟨[[(.int .i64 49155), (.string (bstr (be4 x ++ pL w [])))]], 2, 35, true⟩)]) := by
 have lhb := hd.lt hb
 have lhk := hd.lt hk
 have lhj := hd.lt hj
 refine CQ.body (E := env) env_ok hd rfl rfl (by show _ ≤ _; exact of_decide_eq_true (by kernel_rfl)) ?_
 refine RA.seq hd ?_
 refine RA.region env_ok ?_
 refine OA.op1 (dst := (some 4)) (v := (Pt n 0 0)) (n1 := (n + 1)) (w := (n, some ⟨[(xAc38 x k)], 15, 53, true⟩)) rfl rfl rfl rfl (by omega) ?_
 refine OA.op1 (dst := (some 6)) (v := (.pointer (some ⟨(n + 1), 0, some 0⟩))) (n1 := (n + 2)) (w := ((n + 1), some ⟨[xAc39], 15, 53, true⟩)) rfl rfl rfl rfl (by omega) ?_
 refine OA.nil ?_
 intro _
 refine RA.seq hd ?_
 refine RA.seq hd ?_
 refine RA.region env_ok ?_
 refine OA.p (some 14) (Pt b 0 0) rfl rfl rfl rfl ?_
 refine OA.p (some 15) (.bool false) rfl rfl rfl rfl ?_
 refine OA.nil ?_
 intro _
 refine RA.condF rfl ?_
 refine RA.skip env_ok ?_
 intro _
 refine RA.seq hd ?_
 refine RA.region env_ok ?_
 refine OA.p (some 17) (Pt n 0 2) rfl rfl rfl rfl ?_
 refine OA.p (some 18) (W x) rfl rfl rfl (r_load1 rfl rfl rfl rfl rfl (get_there (by omega) get_here) rfl rfl) ?_
 refine OA.p (some 19) (.agg ⟨(xAc310 x)⟩) rfl rfl rfl (by kernel_rfl) ?_
 refine OA.op1 (dst := (some 7)) (v := (.pointer (some ⟨(n + 2), 0, some 0⟩))) (n1 := (n + 3)) (w := ((n + 2), some ⟨[xAc39], 15, 53, true⟩)) rfl rfl rfl rfl (by omega) ?_
 refine OA.op1 (dst := none) (v := (.tuple #[])) (n1 := (n + 3)) (w := ((n + 2), some ⟨[(xAc310 x)], 15, 53, true⟩)) rfl rfl rfl (r_store rfl rfl rfl rfl rfl rfl rfl get_here rfl rfl (Nat.le_of_ble_eq_true rfl) rfl) (by omega) ?_
 refine OA.nil ?_
 intro _
 refine RA.weaken (D' := [((n + 2), some ⟨[(xAc310 x)], 15, 53, true⟩), ((n + 1), some ⟨[xAc39], 15, 53, true⟩), (n, some ⟨[(xAc38 x k)], 15, 53, true⟩)]) hd (Less.of (fac (mm (fun _ => get_here) (fun _ => get_here)) (fac (mm (fun _ => (get_there (by omega) get_here)) (fun _ => (gt2 (by omega) get_here))) (fac (mm (fun _ => (gt2 (by omega) get_here)) (fun _ => (gt3 (by omega) get_here))) fan))) (gone_of (by simp only [goneP, memP, List.cons_append, List.nil_append, true_or, or_true, true_and, and_true, or_false] <;> omega))) ?_
 refine RA.seq hd ?_
 refine RA.seq hd ?_
 refine RA.region env_ok ?_
 refine OA.p (some 20) (.agg ⟨(xAc38 x k)⟩) rfl rfl rfl (r_loadA rfl rfl rfl rfl (gt2 (by omega) get_here) rfl rfl rfl) ?_
 refine OA.call (dst := (some 21)) (all := [(.agg ⟨(xAc38 x k)⟩)]) rfl rfl rfl rfl rfl rfl rfl rfl (CQ.imp (aAsked49153 (hd.of (by omega) (kb3 (by omega))) x k (gt3 (by omega) hk)) ?_)
 rintro _ n1 _ ⟨in1, p1n1, p2n1, rfl, rfl⟩ hn1
 refine OA.app1 ?_
 refine OA.p (some 22) (.int .i64 1) rfl rfl rfl rfl ?_
 refine OA.p (some 23) (.int .i64 0) rfl rfl rfl rfl ?_
 refine OA.nil ?_
 intro _
 refine RA.block ?_
 refine RA.unroll hd ?_
 refine RA.seq hd ?_
 refine RA.region env_ok ?_
 refine OA.p (some 24) (.bool true) rfl rfl rfl (r_bin rfl rfl rfl (b_lss rfl)) ?_
 refine OA.nil ?_
 intro _
 refine RA.seq hd ?_
 refine RA.condT rfl ?_
 refine RA.skip env_ok ?_
 intro _
 refine RA.seq hd ?_
 refine RA.block ?_
 refine RA.seq hd ?_
 refine RA.region env_ok ?_
 refine OA.p (some 25) (.int .i64 0) rfl rfl rfl rfl ?_
 refine OA.p (some 26) (Pt in1 0 0) rfl rfl rfl (r_iaS (l := 0) rfl rfl rfl rfl rfl rfl (by omega) (by omega) get_here rfl (by omega)) ?_
 refine OA.p (some 27) (.agg ⟨[(.int .i64 49153), (.string (bstr (be4 x ++ (be2 5 ++ (be2 8 ++ (be4 0#32 ++ []))))))]⟩) rfl rfl rfl (r_loadA rfl rfl rfl rfl get_here rfl rfl rfl) ?_
 refine OA.op1 (dst := (some 9)) (v := (Pt n1 0 0)) (n1 := (n1 + 1)) (w := (n1, some ⟨[[(.int .i64 0), (.string ByteArray.empty)]], 2, 35, true⟩)) rfl rfl rfl rfl (by omega) ?_
 refine OA.p (some 8) (.int .i64 0) rfl rfl rfl rfl ?_
 refine OA.op1 (dst := none) (v := (.tuple #[])) (n1 := (n1 + 1)) (w := (n1, some ⟨[[(.int .i64 49153), (.string (bstr (be4 x ++ (be2 5 ++ (be2 8 ++ (be4 0#32 ++ []))))))]], 2, 35, true⟩)) rfl rfl rfl (r_store rfl rfl rfl rfl rfl rfl rfl get_here rfl rfl (Nat.le_of_ble_eq_true rfl) rfl) (by omega) ?_
 refine OA.nil ?_
 intro _
 refine RA.weaken (D' := [(n1, some ⟨[[(.int .i64 49153), (.string (bstr (be4 x ++ (be2 5 ++ (be2 8 ++ (be4 0#32 ++ []))))))]], 2, 35, true⟩), (in1, some ⟨[[(.int .i64 49153), (.string (bstr (be4 x ++ (be2 5 ++ (be2 8 ++ (be4 0#32 ++ []))))))]], 2, 35, true⟩), ((n + 2), some ⟨[(xAc310 x)], 15, 53, true⟩), ((n + 1), some ⟨[xAc39], 15, 53, true⟩), (n, some ⟨[(xAc38 x k)], 15, 53, true⟩)]) hd (Less.of (fac (mm (fun _ => get_here) (fun _ => get_here)) (fac (mm (fun _ => (get_there (by omega) get_here)) (fun _ => (gt2 (by omega) get_here))) (fac (mm (fun _ => (gt2 (by omega) get_here)) (fun _ => (gt3 (by omega) get_here))) (fac (mm (fun _ => (gt3 (by omega) get_here)) (fun _ => (gt4 (by omega) get_here))) (fac (mm (fun _ => (gt4 (by omega) get_here)) (fun _ => (gt5 (by omega) get_here))) fan))))) (gone_of (by simp only [goneP, memP, List.cons_append, List.nil_append, true_or, or_true, true_and, and_true, or_false] <;> omega))) ?_
 refine RA.seq hd ?_
 refine RA.region env_ok ?_
 refine OA.p (some 29) (.agg ⟨[(.int .i64 49153), (.string (bstr (be4 x ++ (be2 5 ++ (be2 8 ++ (be4 0#32 ++ []))))))]⟩) rfl rfl rfl (r_loadA rfl rfl rfl rfl get_here rfl rfl rfl) ?_
 refine OA.callP (dst := (some 30)) (all := [(.agg ⟨[(.int .i64 49153), (.string (bstr (be4 x ++ (be2 5 ++ (be2 8 ++ (be4 0#32 ++ []))))))]⟩)]) (v := (.tuple ⟨[(W x), (W 0#32), (.bool true)]⟩)) (hd.of (by omega) (kb5 (by omega))) rfl rfl rfl rfl rfl rfl rfl rfl (cReq49153 x) ?_
 intro n2 hn2
 refine OA.p (some 28) (.tuple ⟨[(W x), (W 0#32), (.bool true)]⟩) rfl rfl rfl rfl ?_
 refine OA.p (some 31) (W x) rfl rfl rfl rfl ?_
 refine OA.p (some 32) (W 0#32) rfl rfl rfl rfl ?_
 refine OA.p (some 33) (.bool true) rfl rfl rfl rfl ?_
 refine OA.p (some 10) (W x) rfl rfl rfl rfl ?_
 refine OA.p (some 11) (W 0#32) rfl rfl rfl rfl ?_
 refine OA.p (some 12) (.bool true) rfl rfl rfl rfl ?_
 refine OA.nil ?_
 intro _
 refine RA.rebase [(0, (Pt b 0 0)), (1, (.agg ⟨(xAc38 x k)⟩)), (2, (.slice (some ⟨j, 0, none⟩) 1 0)), (4, (Pt n 0 0)), (6, (.pointer (some ⟨(n + 1), 0, some 0⟩))), (7, (.pointer (some ⟨(n + 2), 0, some 0⟩))), (8, (.int .i64 0)), (9, (Pt n1 0 0)), (10, (W x)), (15, (.bool false)), (21, (.slice (some ⟨in1, 0, none⟩) 1 0)), (22, (.int .i64 1)), (23, (.int .i64 0)), (24, (.bool true))] ⟨rfl, rfl, rfl, rfl, rfl, rfl, rfl, rfl, rfl, rfl, rfl, rfl, rfl, rfl, trivial⟩ (fun τr3 => ?_)
 refine RA.seq hd ?_
 refine RA.region env_ok ?_
 refine OA.p (some 13) (.string (ByteArray.mk #[])) rfl rfl rfl rfl ?_
 refine OA.nil ?_
 intro _
 refine RA.seq hd ?_
 refine RA.seq hd ?_
 refine RA.region env_ok ?_
 refine OA.p (some 34) (.int .i64 0) rfl rfl rfl rfl ?_
 refine OA.p (some 35) (.slice (some ⟨j, 0, none⟩) 1 0) rfl rfl rfl rfl ?_
 refine OA.p (some 36) (.int .i64 1) rfl rfl rfl rfl ?_
 refine OA.p (some 37) (.bool true) rfl rfl rfl (r_bin rfl rfl rfl (b_lss rfl)) ?_
 refine OA.p (some 38) (.bool true) rfl rfl rfl rfl ?_
 refine OA.p (some 39) (.slice (some ⟨j, 0, none⟩) 1 0) rfl rfl rfl rfl ?_
 refine OA.p (some 40) (.int .i64 0) rfl rfl rfl rfl ?_
 refine OA.p (some 41) (Pt j 0 0) rfl rfl rfl (r_iaS (l := 0) rfl rfl rfl rfl rfl rfl (by omega) (by omega) (gt5 (by omega) hj) rfl (by omega)) ?_
 refine OA.p (some 42) (.int .i64 ((w : Nat) : Int)) rfl rfl rfl (r_load1 rfl rfl rfl rfl rfl (gt5 (by omega) hj) rfl rfl) ?_
 have hc1 : ((w : Nat) : Int) ≠ 0 := Classical.byContradiction (fun hdd => by exfalso; omega)
 refine OA.p (some 43) (.bool true) rfl rfl rfl (Eq.trans (r_bin rfl rfl rfl (b_neq rfl)) (dT hc1)) ?_
 refine OA.p (some 44) (.bool true) rfl rfl rfl rfl ?_
 refine OA.nil ?_
 intro _
 refine RA.condT rfl ?_
 refine RA.region env_ok ?_
 refine OA.p (some 45) (.slice (some ⟨j, 0, none⟩) 1 0) rfl rfl rfl rfl ?_
 refine OA.p (some 46) (.int .i64 0) rfl rfl rfl rfl ?_
 refine OA.p (some 47) (Pt j 0 0) rfl rfl rfl (r_iaS (l := 0) rfl rfl rfl rfl rfl rfl (by omega) (by omega) (gt5 (by omega) hj) rfl (by omega)) ?_
 refine OA.p (some 48) (.int .i64 ((w : Nat) : Int)) rfl rfl rfl (r_load1 rfl rfl rfl rfl rfl (gt5 (by omega) hj) rfl rfl) ?_
 refine OA.p (some 49) (.agg ⟨[(.int .i64 ((w : Nat) : Int)), (.string ByteArray.empty)]⟩) rfl rfl rfl (by kernel_rfl) ?_
 refine OA.callP (dst := (some 50)) (all := [(.agg ⟨[(.int .i64 ((w : Nat) : Int)), (.string ByteArray.empty)]⟩)]) (v := (.string (bstr (pL w [])))) (hd.of (by omega) (kb5 (by omega))) rfl rfl rfl rfl rfl rfl rfl rfl (lCPut w [] (by omega) (by decide)) ?_
 intro n4 hn4
 refine OA.p (some 13) (.string (bstr (pL w []))) rfl rfl rfl rfl ?_
 refine OA.nil ?_
 intro _
 refine RA.par (md := [some [], some [(n + 2)], some [], some [], none, some [], none, some [], none]) env_ok (hd.of (by omega) (kb5 (by omega))) (by kernel_rfl) ?_
 refine PQ.pure (dst := (some 51)) (v := (.pointer (some ⟨(n + 2), 0, some 11⟩))) rfl rfl rfl noStore (none_ok _ _) rfl ?_
 refine PQ.pure (dst := (some 52)) (v := (.slice none 0 0)) rfl rfl rfl (app [((n + 2), some ⟨[(xAc310 x)], 15, 53, true⟩)] noStore) (seen_one (V := []) (D := [(n1, some ⟨[[(.int .i64 49153), (.string (bstr (be4 x ++ (be2 5 ++ (be2 8 ++ (be4 0#32 ++ []))))))]], 2, 35, true⟩), (in1, some ⟨[[(.int .i64 49153), (.string (bstr (be4 x ++ (be2 5 ++ (be2 8 ++ (be4 0#32 ++ []))))))]], 2, 35, true⟩), ((n + 2), some ⟨[(xAc310 x)], 15, 53, true⟩), ((n + 1), some ⟨[xAc39], 15, 53, true⟩), (n, some ⟨[(xAc38 x k)], 15, 53, true⟩)]) (by kernel_rfl) (gt2 (by omega) get_here)) (r_load1 rfl rfl rfl rfl rfl get_here rfl rfl) ?_
 refine PQ.pure (dst := (some 53)) (v := (W x)) rfl rfl rfl noStore (none_ok _ _) rfl ?_
 refine PQ.pure (dst := (some 54)) (v := (.string (bstr (pL w [])))) rfl rfl rfl noStore (none_ok _ _) rfl ?_
 refine PQ.callP (dst := (some 55)) (all := [(W x), (.string (bstr (pL w [])))]) (v := (.agg ⟨[(.int .i64 49155), (.string (bstr (be4 x ++ pL w [])))]⟩)) _ (hd.of (by omega) (kb5 (by omega))) rfl rfl rfl rfl rfl rfl rfl rfl (seen_any (V := []) (D := [(n1, some ⟨[[(.int .i64 49153), (.string (bstr (be4 x ++ (be2 5 ++ (be2 8 ++ (be4 0#32 ++ []))))))]], 2, 35, true⟩), (in1, some ⟨[[(.int .i64 49153), (.string (bstr (be4 x ++ (be2 5 ++ (be2 8 ++ (be4 0#32 ++ []))))))]], 2, 35, true⟩), ((n + 2), some ⟨[(xAc310 x)], 15, 53, true⟩), ((n + 1), some ⟨[xAc39], 15, 53, true⟩), (n, some ⟨[(xAc38 x k)], 15, 53, true⟩)]) (by kernel_rfl)) (aAns1 x (pL w []) (pL0_len w)) ?_
 intro n5 hn5
 refine PQ.op (dst := (some 56)) (v := (.slice (some ⟨n5, 0, none⟩) 1 0)) (n1 := (n5 + 1)) (d1 := [(n5, some ⟨[[(.int .i64 49155), (.string (bstr (be4 x ++ pL w [])))]], 2, 35, true⟩)]) rfl rfl rfl noStore (none_ok _ _) (by kernel_rfl) (by omega) (kp1 (wr_new (by omega) (by omega))) ?_
 refine PQ.op (dst := (some 57)) (v := (.slice (some ⟨(n5 + 1), 0, none⟩) 1 0)) (n1 := (n5 + 2)) (d1 := [((n5 + 1), some ⟨[[(.int .i64 49155), (.string (bstr (be4 x ++ pL w [])))]], 2, 35, true⟩)]) rfl rfl rfl _ (seen_any (V := [(n5, some ⟨[[(.int .i64 49155), (.string (bstr (be4 x ++ pL w [])))]], 2, 35, true⟩)]) (D := [(n1, some ⟨[[(.int .i64 49153), (.string (bstr (be4 x ++ (be2 5 ++ (be2 8 ++ (be4 0#32 ++ []))))))]], 2, 35, true⟩), (in1, some ⟨[[(.int .i64 49153), (.string (bstr (be4 x ++ (be2 5 ++ (be2 8 ++ (be4 0#32 ++ []))))))]], 2, 35, true⟩), ((n + 2), some ⟨[(xAc310 x)], 15, 53, true⟩), ((n + 1), some ⟨[xAc39], 15, 53, true⟩), (n, some ⟨[(xAc38 x k)], 15, 53, true⟩)]) (by kernel_rfl)) (r_append0 rfl rfl rfl rfl rfl rfl rfl rfl rfl rfl (by decide) get_here (of_decide_eq_true (by kernel_rfl))) (by omega) (kp1 (wr_new (by omega) (by omega))) ?_
 refine PQ.pure (dst := (some 58)) (v := (.pointer (some ⟨(n + 2), 0, some 11⟩))) rfl rfl rfl noStore (none_ok _ _) rfl ?_
 refine PQ.op (dst := none) (v := (.tuple #[])) (n1 := (n5 + 2)) (d1 := [((n + 2), some ⟨[(xAc36 x n5)], 15, 53, true⟩)]) rfl rfl rfl _ (seen_any (V := [((n5 + 1), some ⟨[[(.int .i64 49155), (.string (bstr (be4 x ++ pL w [])))]], 2, 35, true⟩), (n5, some ⟨[[(.int .i64 49155), (.string (bstr (be4 x ++ pL w [])))]], 2, 35, true⟩)]) (D := [(n1, some ⟨[[(.int .i64 49153), (.string (bstr (be4 x ++ (be2 5 ++ (be2 8 ++ (be4 0#32 ++ []))))))]], 2, 35, true⟩), (in1, some ⟨[[(.int .i64 49153), (.string (bstr (be4 x ++ (be2 5 ++ (be2 8 ++ (be4 0#32 ++ []))))))]], 2, 35, true⟩), ((n + 2), some ⟨[(xAc310 x)], 15, 53, true⟩), ((n + 1), some ⟨[xAc39], 15, 53, true⟩), (n, some ⟨[(xAc38 x k)], 15, 53, true⟩)]) (by kernel_rfl)) (r_store rfl rfl rfl rfl rfl rfl rfl (gt4 (by omega) get_here) rfl rfl (Nat.le_of_ble_eq_true rfl) rfl) (by omega) (kp1 (wr_tight (by kernel_rfl) (by omega))) ?_
 refine PQ.done (d := [((n + 2), some ⟨[(xAc36 x n5)], 15, 53, true⟩), ((n5 + 1), some ⟨[[(.int .i64 49155), (.string (bstr (be4 x ++ pL w [])))]], 2, 35, true⟩), (n5, some ⟨[[(.int .i64 49155), (.string (bstr (be4 x ++ pL w [])))]], 2, 35, true⟩)]) (by kernel_rfl) ?_
 intro _
 refine RA.weaken (D' := [((n + 2), some ⟨[(xAc36 x n5)], 15, 53, true⟩), ((n5 + 1), some ⟨[[(.int .i64 49155), (.string (bstr (be4 x ++ pL w [])))]], 2, 35, true⟩), (n5, some ⟨[[(.int .i64 49155), (.string (bstr (be4 x ++ pL w [])))]], 2, 35, true⟩), (n1, some ⟨[[(.int .i64 49153), (.string (bstr (be4 x ++ (be2 5 ++ (be2 8 ++ (be4 0#32 ++ []))))))]], 2, 35, true⟩), (in1, some ⟨[[(.int .i64 49153), (.string (bstr (be4 x ++ (be2 5 ++ (be2 8 ++ (be4 0#32 ++ []))))))]], 2, 35, true⟩), ((n + 1), some ⟨[xAc39], 15, 53, true⟩), (n, some ⟨[(xAc38 x k)], 15, 53, true⟩)]) hd (Less.of (fac (mm (fun _ => get_here) (fun _ => get_here)) (fac (mm (fun _ => (get_there (by omega) get_here)) (fun _ => (get_there (by omega) get_here))) (fac (mm (fun _ => (gt2 (by omega) get_here)) (fun _ => (gt2 (by omega) get_here))) (fac (mm (fun _ => (gt3 (by omega) get_here)) (fun _ => (gt3 (by omega) get_here))) (fac (mm (fun _ => (gt4 (by omega) get_here)) (fun _ => (gt4 (by omega) get_here))) (fac (mm (fun _ => (gt5 (by omega) get_here)) (fun _ => (gt6 (by omega) get_here))) (fac (mm (fun _ => (gt6 (by omega) get_here)) (fun _ => (gt7 (by omega) get_here))) fan))))))) (gone_of (by simp only [goneP, memP, List.cons_append, List.nil_append, true_or, or_true, true_and, and_true, or_false] <;> omega))) ?_
 refine RA.rebase [(0, (Pt b 0 0)), (1, (.agg ⟨(xAc38 x k)⟩)), (2, (.slice (some ⟨j, 0, none⟩) 1 0)), (4, (Pt n 0 0)), (6, (.pointer (some ⟨(n + 1), 0, some 0⟩))), (7, (.pointer (some ⟨(n + 2), 0, some 0⟩))), (8, (.int .i64 0)), (9, (Pt n1 0 0)), (10, (W x)), (13, (.string (bstr (pL w [])))), (15, (.bool false)), (21, (.slice (some ⟨in1, 0, none⟩) 1 0)), (22, (.int .i64 1)), (23, (.int .i64 0)), (24, (.bool true)), (44, (.bool true))] ⟨rfl, rfl, rfl, rfl, rfl, rfl, rfl, rfl, rfl, rfl, rfl, rfl, rfl, rfl, rfl, rfl, trivial⟩ (fun τr6 => ?_)
 refine RA.region env_ok ?_
 refine OA.p (some 59) (.int .i64 1) rfl rfl rfl (r_bin rfl rfl rfl (b_add (i64_eq (by omega)))) ?_
 refine OA.p (some 23) (.int .i64 1) rfl rfl rfl rfl ?_
 refine OA.nil ?_
 intro _
 refine RA.unroll hd ?_
 refine RA.seq hd ?_
 refine RA.region env_ok ?_
 refine OA.p (some 24) (.bool false) rfl rfl rfl (r_bin rfl rfl rfl (b_lss rfl)) ?_
 refine OA.nil ?_
 intro _
 refine RA.seq hd ?_
 refine RA.condF rfl ?_
 refine RA.exit env_ok ?_
 intro _
 refine RA.seq hd ?_
 refine RA.region env_ok ?_
 refine OA.p (some 60) (Pt b 0 0) rfl rfl rfl rfl ?_
 refine OA.p (some 61) (Pt b 0 0) rfl rfl rfl rfl ?_
 refine OA.p (some 62) (.agg ⟨(xAc36 x n5)⟩) rfl rfl rfl (r_loadA rfl rfl rfl rfl get_here rfl rfl rfl) ?_
 refine OA.p (some 63) (Pt b 0 0) rfl rfl rfl rfl ?_
 refine OA.p (some 64) (Pt b 0 1) rfl rfl rfl rfl ?_
 refine OA.op1 (dst := none) (v := (.tuple #[])) (n1 := (n5 + 2)) (w := (b, some ⟨[(xAc34 nx x n5)], 17, 103, true⟩)) rfl rfl rfl (r_store rfl rfl rfl rfl rfl rfl rfl (gt7 (by omega) hb) rfl rfl (Nat.le_of_ble_eq_true rfl) rfl) (by omega) ?_
 refine OA.p (some 65) (Pt b 0 0) rfl rfl rfl rfl ?_
 refine OA.p (some 66) (Pt b 0 16) rfl rfl rfl rfl ?_
 refine OA.op1 (dst := none) (v := (.tuple #[])) (n1 := (n5 + 2)) (w := (b, some ⟨[(xAc34 nx x n5)], 17, 103, true⟩)) rfl rfl rfl (r_store rfl rfl rfl rfl rfl rfl rfl get_here rfl rfl (Nat.le_of_ble_eq_true rfl) rfl) (by omega) ?_
 refine OA.nil ?_
 intro _
 refine RA.weaken (D' := [(b, some ⟨[(xAc34 nx x n5)], 17, 103, true⟩), ((n + 2), some ⟨[(xAc36 x n5)], 15, 53, true⟩), ((n5 + 1), some ⟨[[(.int .i64 49155), (.string (bstr (be4 x ++ pL w [])))]], 2, 35, true⟩), (n5, some ⟨[[(.int .i64 49155), (.string (bstr (be4 x ++ pL w [])))]], 2, 35, true⟩), (n1, some ⟨[[(.int .i64 49153), (.string (bstr (be4 x ++ (be2 5 ++ (be2 8 ++ (be4 0#32 ++ []))))))]], 2, 35, true⟩), (in1, some ⟨[[(.int .i64 49153), (.string (bstr (be4 x ++ (be2 5 ++ (be2 8 ++ (be4 0#32 ++ []))))))]], 2, 35, true⟩), ((n + 1), some ⟨[xAc39], 15, 53, true⟩), (n, some ⟨[(xAc38 x k)], 15, 53, true⟩)]) hd (Less.of (fac (mm (fun _ => get_here) (fun _ => get_here)) (fac (mm (fun _ => (get_there (by omega) get_here)) (fun _ => (gt2 (by omega) get_here))) (fac (mm (fun _ => (gt2 (by omega) get_here)) (fun _ => (gt3 (by omega) get_here))) (fac (mm (fun _ => (gt3 (by omega) get_here)) (fun _ => (gt4 (by omega) get_here))) (fac (mm (fun _ => (gt4 (by omega) get_here)) (fun _ => (gt5 (by omega) get_here))) (fac (mm (fun _ => (gt5 (by omega) get_here)) (fun _ => (gt6 (by omega) get_here))) (fac (mm (fun _ => (gt6 (by omega) get_here)) (fun _ => (gt7 (by omega) get_here))) (fac (mm (fun _ => (gt7 (by omega) get_here)) (fun _ => (gt8 (by omega) get_here))) fan)))))))) (gone_of (by simp only [goneP, memP, List.cons_append, List.nil_append, true_or, or_true, true_and, and_true, or_false] <;> omega))) ?_
 refine RA.seq hd ?_
 refine RA.region env_ok ?_
 refine OA.p (some 67) (Pt b 0 0) rfl rfl rfl rfl ?_
 refine OA.p (some 68) (Pt b 0 0) rfl rfl rfl rfl ?_
 refine OA.p (some 69) (Pt b 0 0) rfl rfl rfl rfl ?_
 refine OA.p (some 70) (W nx) rfl rfl rfl (r_load1 rfl rfl rfl rfl rfl get_here rfl rfl) ?_
 refine OA.p (some 71) (W (nx + (1#32))) rfl rfl rfl (r_bin rfl rfl rfl (b_addW nx (1#32))) ?_
 refine OA.p (some 72) (Pt b 0 0) rfl rfl rfl rfl ?_
 refine OA.p (some 73) (Pt b 0 0) rfl rfl rfl rfl ?_
 refine OA.op1 (dst := none) (v := (.tuple #[])) (n1 := (n5 + 2)) (w := (b, some ⟨[(xAc32 nx x n5)], 17, 103, true⟩)) rfl rfl rfl (r_store rfl rfl rfl rfl rfl rfl rfl get_here rfl rfl (Nat.le_of_ble_eq_true rfl) rfl) (by omega) ?_
 refine OA.nil ?_
 intro _
 refine RA.weaken (D' := [(b, some ⟨[(xAc32 nx x n5)], 17, 103, true⟩), ((n + 2), some ⟨[(xAc36 x n5)], 15, 53, true⟩), ((n5 + 1), some ⟨[[(.int .i64 49155), (.string (bstr (be4 x ++ pL w [])))]], 2, 35, true⟩), (n5, some ⟨[[(.int .i64 49155), (.string (bstr (be4 x ++ pL w [])))]], 2, 35, true⟩), (n1, some ⟨[[(.int .i64 49153), (.string (bstr (be4 x ++ (be2 5 ++ (be2 8 ++ (be4 0#32 ++ []))))))]], 2, 35, true⟩), (in1, some ⟨[[(.int .i64 49153), (.string (bstr (be4 x ++ (be2 5 ++ (be2 8 ++ (be4 0#32 ++ []))))))]], 2, 35, true⟩), ((n + 1), some ⟨[xAc39], 15, 53, true⟩), (n, some ⟨[(xAc38 x k)], 15, 53, true⟩)]) hd (Less.of (fac (mm (fun _ => get_here) (fun _ => get_here)) (fac (mm (fun _ => (get_there (by omega) get_here)) (fun _ => (gt2 (by omega) get_here))) (fac (mm (fun _ => (gt2 (by omega) get_here)) (fun _ => (gt3 (by omega) get_here))) (fac (mm (fun _ => (gt3 (by omega) get_here)) (fun _ => (gt4 (by omega) get_here))) (fac (mm (fun _ => (gt4 (by omega) get_here)) (fun _ => (gt5 (by omega) get_here))) (fac (mm (fun _ => (gt5 (by omega) get_here)) (fun _ => (gt6 (by omega) get_here))) (fac (mm (fun _ => (gt6 (by omega) get_here)) (fun _ => (gt7 (by omega) get_here))) (fac (mm (fun _ => (gt7 (by omega) get_here)) (fun _ => (gt8 (by omega) get_here))) fan)))))))) (gone_of (by simp only [goneP, memP, List.cons_append, List.nil_append, true_or, or_true, true_and, and_true, or_false] <;> omega))) ?_
 refine RA.seq hd ?_
 refine RA.region env_ok ?_
 refine OA.p (some 74) (.agg ⟨(xAc36 x n5)⟩) rfl rfl rfl (r_loadA rfl rfl rfl rfl (get_there (by omega) get_here) rfl rfl rfl) ?_
 refine OA.op1 (dst := none) (v := (.tuple #[])) (n1 := (n5 + 2)) (w := ((n + 1), some ⟨[(xAc36 x n5)], 15, 53, true⟩)) rfl rfl rfl (r_store rfl rfl rfl rfl rfl rfl rfl (gt6 (by omega) get_here) rfl rfl (Nat.le_of_ble_eq_true rfl) rfl) (by omega) ?_
 refine OA.nil ?_
 intro _
 refine RA.weaken (D' := [((n + 1), some ⟨[(xAc36 x n5)], 15, 53, true⟩), (b, some ⟨[(xAc32 nx x n5)], 17, 103, true⟩), ((n + 2), some ⟨[(xAc36 x n5)], 15, 53, true⟩), ((n5 + 1), some ⟨[[(.int .i64 49155), (.string (bstr (be4 x ++ pL w [])))]], 2, 35, true⟩), (n5, some ⟨[[(.int .i64 49155), (.string (bstr (be4 x ++ pL w [])))]], 2, 35, true⟩), (n1, some ⟨[[(.int .i64 49153), (.string (bstr (be4 x ++ (be2 5 ++ (be2 8 ++ (be4 0#32 ++ []))))))]], 2, 35, true⟩), (in1, some ⟨[[(.int .i64 49153), (.string (bstr (be4 x ++ (be2 5 ++ (be2 8 ++ (be4 0#32 ++ []))))))]], 2, 35, true⟩), (n, some ⟨[(xAc38 x k)], 15, 53, true⟩)]) hd (Less.of (fac (mm (fun _ => get_here) (fun _ => get_here)) (fac (mm (fun _ => (get_there (by omega) get_here)) (fun _ => (get_there (by omega) get_here))) (fac (mm (fun _ => (gt2 (by omega) get_here)) (fun _ => (gt2 (by omega) get_here))) (fac (mm (fun _ => (gt3 (by omega) get_here)) (fun _ => (gt3 (by omega) get_here))) (fac (mm (fun _ => (gt4 (by omega) get_here)) (fun _ => (gt4 (by omega) get_here))) (fac (mm (fun _ => (gt5 (by omega) get_here)) (fun _ => (gt5 (by omega) get_here))) (fac (mm (fun _ => (gt6 (by omega) get_here)) (fun _ => (gt6 (by omega) get_here))) (fac (mm (fun _ => (gt7 (by omega) get_here)) (fun _ => (gt8 (by omega) get_here))) fan)))))))) (gone_of (by simp only [goneP, memP, List.cons_append, List.nil_append, true_or, or_true, true_and, and_true, or_false] <;> omega))) ?_
 refine RA.ret env_ok ?_
 refine ⟨.inr rfl, [(.agg ⟨(xAc36 x n5)⟩)], (resL_cons (res_cellA rfl rfl rfl get_here rfl rfl rfl) resL_nil), [(b, some ⟨[(xAc32 nx x n5)], 17, 103, true⟩), ((n5 + 1), some ⟨[[(.int .i64 49155), (.string (bstr (be4 x ++ pL w [])))]], 2, 35, true⟩)], (Less.of (fac (mm (fun _ => get_here) (fun _ => (get_there (by omega) get_here))) (fac (mm (fun _ => (get_there (by omega) get_here)) (fun _ => (gt3 (by omega) get_here))) fan)) (gone_of (by simp only [goneP, memP, List.cons_append, List.nil_append, true_or, or_true, true_and, and_true, or_false] <;> omega))), ⟨(n5 + 1), by omega, by omega, rfl, rfl⟩⟩
end Go.Proofs.Ytgajcmanompmcaa.Vt
