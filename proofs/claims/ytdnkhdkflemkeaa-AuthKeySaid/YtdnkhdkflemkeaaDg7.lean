/- Dg7: walks through functions of the program, by the calculus; written by a program of this workplace. -/
import Derived.Test.YtdnkhdkflemkeaaDg6
import Derived.Test.YtdnkhdkflemkeaaVm5
namespace Go.Proofs.Ytdnkhdkflemkeaa.Vt
open Go Go.Proofs Go.Proofs.YtdnkhdkflemkeaaV
set_option maxRecDepth 100000
set_option linter.unusedVariables false
set_option linter.unusedSimpArgs false
theorem word_cut (s : ByteArray) (i : Nat) (h : 4 * i + 4 ≤ s.size) : BitVec.ofNat 32 (beN ((L (s.extract (4 * i) ((4 * i) + 4))).take 4)) = word s i := by
  rw [word, L_extract, List.take_take]
  congr 4
  omega
theorem rep_snoc (s : ByteArray) (z : Nat) : (s ++ bstr (List.replicate z 0)) ++ ⟨#[0]⟩ = s ++ bstr (List.replicate (z + 1) 0) := by
  apply L_ext
  rw [L_append, L_append, L_append, L_bstr, L_bstr, List.append_assoc, List.replicate_succ']
theorem rep_zero (s : ByteArray) : s = s ++ bstr (List.replicate 0 0) := by
  apply L_ext
  rw [L_append, L_bstr]
  exact (List.append_nil _).symm
theorem s42 {σ : Store} (h : H5) (s : ByteArray) (hs : s.size = 64)   : PS Try.prog noDen 42 [(.agg ⟨[(W h.a), (W h.b), (W h.c), (W h.d), (W h.e)]⟩), (.string s)] σ (.agg ⟨[W (blk h s).a, W (blk h s).b, W (blk h s).c, W (blk h s).d, W (blk h s).e]⟩) := by
 refine PS.body (E := env) env_ok rfl rfl (by show _ ≤ _; exact of_decide_eq_true (by kernel_rfl)) (fun n hd => ?_)
 refine RA.seq hd ?_
 refine RA.region env_ok ?_
 refine OA.op1 (dst := (some 2)) (v := (.pointer (some ⟨n, 0, some 0⟩))) (n1 := (n + 1)) (w := (n, some ⟨[[(W h.a), (W h.b), (W h.c), (W h.d), (W h.e)]], 5, 59, true⟩)) rfl rfl rfl rfl (by omega) ?_
 refine OA.op1 (dst := (some 4)) (v := (.pointer (some ⟨(n + 1), 0, some 0⟩))) (n1 := (n + 2)) (w := ((n + 1), some ⟨[[(.int .u32 0), (.int .u32 0), (.int .u32 0), (.int .u32 0), (.int .u32 0)]], 5, 59, true⟩)) rfl rfl rfl rfl (by omega) ?_
 refine OA.nil ?_
 intro _
 refine RA.seq hd ?_
 refine RA.region env_ok ?_
 refine OA.op1 (dst := (some 17)) (v := (.slice (some ⟨(n + 2), 0, none⟩) 80 0)) (n1 := (n + 3)) (w := ((n + 2), some ⟨((List.replicate 80 0#32).map WL), 1, 32, true⟩)) rfl rfl rfl (by kernel_rfl) (by omega) ?_
 refine OA.p (some 5) (.slice (some ⟨(n + 2), 0, none⟩) 80 0) rfl rfl rfl rfl ?_
 refine OA.nil ?_
 intro _
 refine RA.seq hd ?_
 refine RA.seq hd ?_
 refine RA.region env_ok ?_
 refine OA.p (some 6) (.int .i64 0) rfl rfl rfl rfl ?_
 refine OA.nil ?_
 intro _
 refine RA.block ?_
 refine RA.loop hd (fun kk_ τ n' D => ∃ i : Nat, ∃ ws : List (BitVec 32),  kk_ = (80 - i) ∧ (n + 3) ≤ n' ∧ Has τ [(1, (.string s)), (2, (.pointer (some ⟨n, 0, some 0⟩))), (4, (.pointer (some ⟨(n + 1), 0, some 0⟩))), (5, (.slice (some ⟨(n + 2), 0, none⟩) 80 0)), (6, (.int .i64 ((i : Nat) : Int)))] ∧ D = [((n + 2), some ⟨(ws.map WL), 1, 32, true⟩), ((n + 1), some ⟨[[(.int .u32 0), (.int .u32 0), (.int .u32 0), (.int .u32 0), (.int .u32 0)]], 5, 59, true⟩), (n, some ⟨[[(W h.a), (W h.b), (W h.c), (W h.d), (W h.e)]], 5, 59, true⟩)] ∧ (∀ i ∈ keys D, i < n') ∧ i ≤ 80 ∧ ws.length = 80 ∧ ∀ j, j < i → ws.getD j 0 = wd s j) ((80 - 0)) ⟨0, (List.replicate 80 0#32), rfl, by omega, ⟨rfl, rfl, rfl, rfl, rfl, trivial⟩, rfl, (kb3 (by omega)), ⟨by omega, List.length_replicate, fun j hj => by omega⟩⟩ ?_
 rintro kn1 τ1 n1 _ ⟨i, ws, rfl, hn1, hHn1, rfl, hKn1, hIn1⟩
 rw [Has.eq hHn1]
 have hKn1_0 : (n + 2) < n1 := hKn1 _ (by simp only [keys, List.map_cons, List.map_nil, List.mem_cons, true_or, or_true])
 have hKn1_1 : (n + 1) < n1 := hKn1 _ (by simp only [keys, List.map_cons, List.map_nil, List.mem_cons, true_or, or_true])
 have hKn1_2 : n < n1 := hKn1 _ (by simp only [keys, List.map_cons, List.map_nil, List.mem_cons, true_or, or_true])
 simp only [keys, List.map, List.forall_mem_cons, List.mem_cons, List.not_mem_nil, false_imp_iff, implies_true, and_true] at hKn1
 obtain ⟨hi, hl, hf⟩ := hIn1
 refine RA.seq hd ?_
 refine RA.seq hd ?_
 refine RA.region env_ok ?_
 refine OA.p (some 18) (.int .i64 ((i : Nat) : Int)) rfl rfl rfl rfl ?_
 by_cases hc1 : ((i : Nat) : Int) < 80
 ·
  refine OA.p (some 19) (.bool true) rfl rfl rfl (Eq.trans (r_bin rfl rfl rfl (b_lss rfl)) (dT hc1)) ?_
  refine OA.nil ?_
  intro _
  refine RA.condT rfl ?_
  refine RA.skip env_ok ?_
  intro _
  refine RA.seq hd ?_
  refine RA.block ?_
  refine RA.seq hd ?_
  refine RA.seq hd ?_
  refine RA.region env_ok ?_
  refine OA.p (some 22) (.int .i64 ((i : Nat) : Int)) rfl rfl rfl rfl ?_
  by_cases hc2 : ((i : Nat) : Int) < 16
  ·
   refine OA.p (some 23) (.bool true) rfl rfl rfl (Eq.trans (r_bin rfl rfl rfl (b_lss rfl)) (dT hc2)) ?_
   refine OA.nil ?_
   intro _
   refine RA.condT rfl ?_
   refine RA.seq hd ?_
   refine RA.region env_ok ?_
   refine OA.p (some 25) (.string s) rfl rfl rfl rfl ?_
   refine OA.p (some 26) (.int .i64 ((i : Nat) : Int)) rfl rfl rfl rfl ?_
   refine OA.p (some 27) (.int .i64 (((4 * i) : Nat) : Int)) rfl rfl rfl (r_bin rfl rfl rfl (b_mul (i64_eq (by omega)))) ?_
   refine OA.p (some 28) (.int .i64 ((i : Nat) : Int)) rfl rfl rfl rfl ?_
   refine OA.p (some 29) (.int .i64 (((4 * i) : Nat) : Int)) rfl rfl rfl (r_bin rfl rfl rfl (b_mul (i64_eq (by omega)))) ?_
   refine OA.p (some 30) (.int .i64 ((((4 * i) + 4) : Nat) : Int)) rfl rfl rfl (r_bin rfl rfl rfl (b_add (i64_eq (by omega)))) ?_
   refine OA.p (some 31) (.string (s.extract (4 * i) ((4 * i) + 4))) rfl rfl rfl (r_cut (a := (4 * i)) (b := ((4 * i) + 4)) rfl rfl (fun _ => rfl) (fun _ => rfl) rfl rfl bound_nat bound_nat (by omega) (by omega) rfl) ?_
   refine OA.p (some 32) (.agg ⟨[(.string (s.extract (4 * i) ((4 * i) + 4))), (.int .i64 0)]⟩) rfl rfl rfl (by kernel_rfl) ?_
   refine OA.callP (dst := (some 33)) (all := [(.agg ⟨[(.string (s.extract (4 * i) ((4 * i) + 4))), (.int .i64 0)]⟩), (.int .i64 4)]) (v := (.tuple ⟨[(.agg ⟨[(.string ((s.extract (4 * i) ((4 * i) + 4)).extract 4 (s.extract (4 * i) ((4 * i) + 4)).size)), (.int .i64 0)]⟩), (.int .u64 (((beN ((L (s.extract (4 * i) ((4 * i) + 4))).take 4)) : Nat) : Int))]⟩)) (hd.of (by omega) (kb3 (by omega))) rfl rfl rfl rfl rfl rfl rfl rfl (s58 (s.extract (4 * i) ((4 * i) + 4)) 4 (by rw [size_cut _ _ _ (by omega)]; omega) (by decide)) ?_
   intro n2 hn2
   refine OA.p (some 24) (.tuple ⟨[(.agg ⟨[(.string ((s.extract (4 * i) ((4 * i) + 4)).extract 4 (s.extract (4 * i) ((4 * i) + 4)).size)), (.int .i64 0)]⟩), (.int .u64 (((beN ((L (s.extract (4 * i) ((4 * i) + 4))).take 4)) : Nat) : Int))]⟩) rfl rfl rfl rfl ?_
   refine OA.p (some 34) (.agg ⟨[(.string ((s.extract (4 * i) ((4 * i) + 4)).extract 4 (s.extract (4 * i) ((4 * i) + 4)).size)), (.int .i64 0)]⟩) rfl rfl rfl rfl ?_
   refine OA.p (some 35) (.int .u64 (((beN ((L (s.extract (4 * i) ((4 * i) + 4))).take 4)) : Nat) : Int)) rfl rfl rfl rfl ?_
   refine OA.op1 (dst := (some 7)) (v := (.pointer (some ⟨n2, 0, some 0⟩))) (n1 := (n2 + 1)) (w := (n2, some ⟨[[(.string ByteArray.empty), (.int .i64 0)]], 2, 85, true⟩)) rfl rfl rfl rfl (by omega) ?_
   refine OA.op1 (dst := none) (v := (.tuple #[])) (n1 := (n2 + 1)) (w := (n2, some ⟨[[(.string ((s.extract (4 * i) ((4 * i) + 4)).extract 4 (s.extract (4 * i) ((4 * i) + 4)).size)), (.int .i64 0)]], 2, 85, true⟩)) rfl rfl rfl (r_store rfl rfl rfl rfl rfl rfl rfl get_here rfl rfl (Nat.le_of_ble_eq_true rfl) rfl) (by omega) ?_
   refine OA.p (some 8) (.int .u64 (((beN ((L (s.extract (4 * i) ((4 * i) + 4))).take 4)) : Nat) : Int)) rfl rfl rfl rfl ?_
   refine OA.nil ?_
   intro _
   refine RA.seq hd ?_
   refine RA.region env_ok ?_
   refine OA.p (some 36) (.slice (some ⟨(n + 2), 0, none⟩) 80 0) rfl rfl rfl rfl ?_
   refine OA.p (some 37) (.int .i64 ((i : Nat) : Int)) rfl rfl rfl rfl ?_
   refine OA.p (some 38) (.int .u64 (((beN ((L (s.extract (4 * i) ((4 * i) + 4))).take 4)) : Nat) : Int)) rfl rfl rfl rfl ?_
   refine OA.p (some 39) (W (BitVec.ofNat 32 (beN ((L (s.extract (4 * i) ((4 * i) + 4))).take 4)))) rfl rfl rfl (r_cvt rfl rfl rfl rfl rfl ⟨_, rfl⟩ (wrap_ofNat32 _)) ?_
   refine OA.p (some 40) (.pointer (some ⟨(n + 2), i, some 0⟩)) rfl rfl rfl (r_iaS (l := i) rfl rfl rfl rfl rfl rfl (by omega) (by omega) (gt2 (by omega) get_here) rfl (by omega)) ?_
   refine OA.op1 (dst := none) (v := (.tuple #[])) (n1 := (n2 + 1)) (w := ((n + 2), some ⟨((ws.set i (BitVec.ofNat 32 (beN ((L (s.extract (4 * i) ((4 * i) + 4))).take 4)))).map WL), 1, 32, true⟩)) rfl rfl rfl (r_storeWL (X := (BitVec.ofNat 32 (beN ((L (s.extract (4 * i) ((4 * i) + 4))).take 4)))) rfl rfl rfl rfl rfl (gt2 (by omega) get_here) (by rw [hl]; omega)) (by omega) ?_
   refine OA.nil ?_
   intro _
   refine RA.rebase [(1, (.string s)), (2, (.pointer (some ⟨n, 0, some 0⟩))), (4, (.pointer (some ⟨(n + 1), 0, some 0⟩))), (5, (.slice (some ⟨(n + 2), 0, none⟩) 80 0)), (6, (.int .i64 ((i : Nat) : Int))), (8, (.int .u64 (((beN ((L (s.extract (4 * i) ((4 * i) + 4))).take 4)) : Nat) : Int))), (19, (.bool true)), (23, (.bool true))] ⟨rfl, rfl, rfl, rfl, rfl, rfl, rfl, rfl, trivial⟩ (fun τr3 => ?_)
   refine RA.exit env_ok ?_
   intro _
   refine RA.region env_ok ?_
   refine OA.p (some 20) (.int .i64 ((i : Nat) : Int)) rfl rfl rfl rfl ?_
   refine OA.p (some 21) (.int .i64 (((i + 1) : Nat) : Int)) rfl rfl rfl (r_bin rfl rfl rfl (b_add (i64_eq (by omega)))) ?_
   refine OA.p (some 6) (.int .i64 (((i + 1) : Nat) : Int)) rfl rfl rfl rfl ?_
   refine OA.nil ?_
   refine ⟨(80 - (i + 1)), by omega, [((n + 2), some ⟨((ws.set i (BitVec.ofNat 32 (beN ((L (s.extract (4 * i) ((4 * i) + 4))).take 4)))).map WL), 1, 32, true⟩), ((n + 1), some ⟨[[(.int .u32 0), (.int .u32 0), (.int .u32 0), (.int .u32 0), (.int .u32 0)]], 5, 59, true⟩), (n, some ⟨[[(W h.a), (W h.b), (W h.c), (W h.d), (W h.e)]], 5, 59, true⟩)], (Less.of (fac (mm (fun _ => get_here) (fun _ => get_here)) (fac (mm (fun _ => (get_there (by omega) get_here)) (fun _ => (gt4 (by omega) get_here))) (fac (mm (fun _ => (gt2 (by omega) get_here)) (fun _ => (gt5 (by omega) get_here))) fan))) (gone_of (by simp only [goneP, memP, List.cons_append, List.nil_append, true_or, or_true, true_and, and_true, or_false] <;> omega))), (i + 1), (ws.set i (BitVec.ofNat 32 (beN ((L (s.extract (4 * i) ((4 * i) + 4))).take 4)))), rfl, by omega, ⟨rfl, rfl, rfl, rfl, rfl, trivial⟩, rfl, (kb3 (by omega)), ⟨by omega, by rw [List.length_set]; exact hl, fun j hj => (Nat.lt_or_ge j i).elim (fun h => by rw [lset_ne (by omega)]; exact hf j h) (fun h => by rw [show j = i from by omega, lset_self (by omega), wd_lo (by omega), word_cut _ _ (by omega)])⟩⟩
  ·
   refine OA.p (some 23) (.bool false) rfl rfl rfl (Eq.trans (r_bin rfl rfl rfl (b_lss rfl)) (dF hc2)) ?_
   refine OA.nil ?_
   intro _
   refine RA.condF rfl ?_
   refine RA.skip env_ok ?_
   intro _
   refine RA.par (md := [some [], some [], some [], some [], some [], some [(n + 2)], some [(n + 2)], some [], some [], some [], some [(n + 2)], some [(n + 2)], some [], some [], some [], some [], some [(n + 2)], some [(n + 2)], some [], some [], some [], some [], some [(n + 2)], some [(n + 2)], some [], some [], some [(n + 2)], none]) env_ok (hd.of (by omega) (kb3 (by omega))) (by kernel_rfl) ?_
   refine PQ.pure (dst := (some 41)) (v := (.slice (some ⟨(n + 2), 0, none⟩) 80 0)) rfl rfl rfl noStore (none_ok _ _) rfl ?_
   refine PQ.pure (dst := (some 42)) (v := (.int .i64 ((i : Nat) : Int))) rfl rfl rfl noStore (none_ok _ _) rfl ?_
   refine PQ.pure (dst := (some 43)) (v := (.slice (some ⟨(n + 2), 0, none⟩) 80 0)) rfl rfl rfl noStore (none_ok _ _) rfl ?_
   refine PQ.pure (dst := (some 44)) (v := (.int .i64 ((i : Nat) : Int))) rfl rfl rfl noStore (none_ok _ _) rfl ?_
   refine PQ.pure (dst := (some 45)) (v := (.int .i64 (((i - 3) : Nat) : Int))) rfl rfl rfl noStore (none_ok _ _) (r_bin rfl rfl rfl (b_sub (i64_eq (by omega)))) ?_
   refine PQ.pure (dst := (some 46)) (v := (.pointer (some ⟨(n + 2), (i - 3), some 0⟩))) rfl rfl rfl (app [((n + 2), some ⟨(ws.map WL), 1, 32, true⟩)] noStore) (seen_one (V := []) (D := [((n + 2), some ⟨(ws.map WL), 1, 32, true⟩), ((n + 1), some ⟨[[(.int .u32 0), (.int .u32 0), (.int .u32 0), (.int .u32 0), (.int .u32 0)]], 5, 59, true⟩), (n, some ⟨[[(W h.a), (W h.b), (W h.c), (W h.d), (W h.e)]], 5, 59, true⟩)]) (by kernel_rfl) get_here) (r_iaS (l := (i - 3)) rfl rfl rfl rfl rfl rfl (by omega) (by omega) get_here rfl (by omega)) ?_
   refine PQ.pure (dst := (some 47)) (v := (W (ws.getD (i - 3) 0))) rfl rfl rfl (app [((n + 2), some ⟨(ws.map WL), 1, 32, true⟩)] noStore) (seen_one (V := []) (D := [((n + 2), some ⟨(ws.map WL), 1, 32, true⟩), ((n + 1), some ⟨[[(.int .u32 0), (.int .u32 0), (.int .u32 0), (.int .u32 0), (.int .u32 0)]], 5, 59, true⟩), (n, some ⟨[[(W h.a), (W h.b), (W h.c), (W h.d), (W h.e)]], 5, 59, true⟩)]) (by kernel_rfl) get_here) (r_loadWL rfl rfl rfl rfl rfl get_here (by rw [hl]; omega)) ?_
   refine PQ.pure (dst := (some 48)) (v := (.slice (some ⟨(n + 2), 0, none⟩) 80 0)) rfl rfl rfl noStore (none_ok _ _) rfl ?_
   refine PQ.pure (dst := (some 49)) (v := (.int .i64 ((i : Nat) : Int))) rfl rfl rfl noStore (none_ok _ _) rfl ?_
   refine PQ.pure (dst := (some 50)) (v := (.int .i64 (((i - 8) : Nat) : Int))) rfl rfl rfl noStore (none_ok _ _) (r_bin rfl rfl rfl (b_sub (i64_eq (by omega)))) ?_
   refine PQ.pure (dst := (some 51)) (v := (.pointer (some ⟨(n + 2), (i - 8), some 0⟩))) rfl rfl rfl (app [((n + 2), some ⟨(ws.map WL), 1, 32, true⟩)] noStore) (seen_one (V := []) (D := [((n + 2), some ⟨(ws.map WL), 1, 32, true⟩), ((n + 1), some ⟨[[(.int .u32 0), (.int .u32 0), (.int .u32 0), (.int .u32 0), (.int .u32 0)]], 5, 59, true⟩), (n, some ⟨[[(W h.a), (W h.b), (W h.c), (W h.d), (W h.e)]], 5, 59, true⟩)]) (by kernel_rfl) get_here) (r_iaS (l := (i - 8)) rfl rfl rfl rfl rfl rfl (by omega) (by omega) get_here rfl (by omega)) ?_
   refine PQ.pure (dst := (some 52)) (v := (W (ws.getD (i - 8) 0))) rfl rfl rfl (app [((n + 2), some ⟨(ws.map WL), 1, 32, true⟩)] noStore) (seen_one (V := []) (D := [((n + 2), some ⟨(ws.map WL), 1, 32, true⟩), ((n + 1), some ⟨[[(.int .u32 0), (.int .u32 0), (.int .u32 0), (.int .u32 0), (.int .u32 0)]], 5, 59, true⟩), (n, some ⟨[[(W h.a), (W h.b), (W h.c), (W h.d), (W h.e)]], 5, 59, true⟩)]) (by kernel_rfl) get_here) (r_loadWL rfl rfl rfl rfl rfl get_here (by rw [hl]; omega)) ?_
   refine PQ.pure (dst := (some 53)) (v := (W ((ws.getD (i - 3) 0) ^^^ (ws.getD (i - 8) 0)))) rfl rfl rfl noStore (none_ok _ _) (r_bin rfl rfl rfl (b_xorW (ws.getD (i - 3) 0) (ws.getD (i - 8) 0))) ?_
   refine PQ.pure (dst := (some 54)) (v := (.slice (some ⟨(n + 2), 0, none⟩) 80 0)) rfl rfl rfl noStore (none_ok _ _) rfl ?_
   refine PQ.pure (dst := (some 55)) (v := (.int .i64 ((i : Nat) : Int))) rfl rfl rfl noStore (none_ok _ _) rfl ?_
   refine PQ.pure (dst := (some 56)) (v := (.int .i64 (((i - 14) : Nat) : Int))) rfl rfl rfl noStore (none_ok _ _) (r_bin rfl rfl rfl (b_sub (i64_eq (by omega)))) ?_
   refine PQ.pure (dst := (some 57)) (v := (.pointer (some ⟨(n + 2), (i - 14), some 0⟩))) rfl rfl rfl (app [((n + 2), some ⟨(ws.map WL), 1, 32, true⟩)] noStore) (seen_one (V := []) (D := [((n + 2), some ⟨(ws.map WL), 1, 32, true⟩), ((n + 1), some ⟨[[(.int .u32 0), (.int .u32 0), (.int .u32 0), (.int .u32 0), (.int .u32 0)]], 5, 59, true⟩), (n, some ⟨[[(W h.a), (W h.b), (W h.c), (W h.d), (W h.e)]], 5, 59, true⟩)]) (by kernel_rfl) get_here) (r_iaS (l := (i - 14)) rfl rfl rfl rfl rfl rfl (by omega) (by omega) get_here rfl (by omega)) ?_
   refine PQ.pure (dst := (some 58)) (v := (W (ws.getD (i - 14) 0))) rfl rfl rfl (app [((n + 2), some ⟨(ws.map WL), 1, 32, true⟩)] noStore) (seen_one (V := []) (D := [((n + 2), some ⟨(ws.map WL), 1, 32, true⟩), ((n + 1), some ⟨[[(.int .u32 0), (.int .u32 0), (.int .u32 0), (.int .u32 0), (.int .u32 0)]], 5, 59, true⟩), (n, some ⟨[[(W h.a), (W h.b), (W h.c), (W h.d), (W h.e)]], 5, 59, true⟩)]) (by kernel_rfl) get_here) (r_loadWL rfl rfl rfl rfl rfl get_here (by rw [hl]; omega)) ?_
   refine PQ.pure (dst := (some 59)) (v := (W (((ws.getD (i - 3) 0) ^^^ (ws.getD (i - 8) 0)) ^^^ (ws.getD (i - 14) 0)))) rfl rfl rfl noStore (none_ok _ _) (r_bin rfl rfl rfl (b_xorW ((ws.getD (i - 3) 0) ^^^ (ws.getD (i - 8) 0)) (ws.getD (i - 14) 0))) ?_
   refine PQ.pure (dst := (some 60)) (v := (.slice (some ⟨(n + 2), 0, none⟩) 80 0)) rfl rfl rfl noStore (none_ok _ _) rfl ?_
   refine PQ.pure (dst := (some 61)) (v := (.int .i64 ((i : Nat) : Int))) rfl rfl rfl noStore (none_ok _ _) rfl ?_
   refine PQ.pure (dst := (some 62)) (v := (.int .i64 (((i - 16) : Nat) : Int))) rfl rfl rfl noStore (none_ok _ _) (r_bin rfl rfl rfl (b_sub (i64_eq (by omega)))) ?_
   refine PQ.pure (dst := (some 63)) (v := (.pointer (some ⟨(n + 2), (i - 16), some 0⟩))) rfl rfl rfl (app [((n + 2), some ⟨(ws.map WL), 1, 32, true⟩)] noStore) (seen_one (V := []) (D := [((n + 2), some ⟨(ws.map WL), 1, 32, true⟩), ((n + 1), some ⟨[[(.int .u32 0), (.int .u32 0), (.int .u32 0), (.int .u32 0), (.int .u32 0)]], 5, 59, true⟩), (n, some ⟨[[(W h.a), (W h.b), (W h.c), (W h.d), (W h.e)]], 5, 59, true⟩)]) (by kernel_rfl) get_here) (r_iaS (l := (i - 16)) rfl rfl rfl rfl rfl rfl (by omega) (by omega) get_here rfl (by omega)) ?_
   refine PQ.pure (dst := (some 64)) (v := (W (ws.getD (i - 16) 0))) rfl rfl rfl (app [((n + 2), some ⟨(ws.map WL), 1, 32, true⟩)] noStore) (seen_one (V := []) (D := [((n + 2), some ⟨(ws.map WL), 1, 32, true⟩), ((n + 1), some ⟨[[(.int .u32 0), (.int .u32 0), (.int .u32 0), (.int .u32 0), (.int .u32 0)]], 5, 59, true⟩), (n, some ⟨[[(W h.a), (W h.b), (W h.c), (W h.d), (W h.e)]], 5, 59, true⟩)]) (by kernel_rfl) get_here) (r_loadWL rfl rfl rfl rfl rfl get_here (by rw [hl]; omega)) ?_
   refine PQ.pure (dst := (some 65)) (v := (W ((((ws.getD (i - 3) 0) ^^^ (ws.getD (i - 8) 0)) ^^^ (ws.getD (i - 14) 0)) ^^^ (ws.getD (i - 16) 0)))) rfl rfl rfl noStore (none_ok _ _) (r_bin rfl rfl rfl (b_xorW (((ws.getD (i - 3) 0) ^^^ (ws.getD (i - 8) 0)) ^^^ (ws.getD (i - 14) 0)) (ws.getD (i - 16) 0))) ?_
   refine PQ.callP (dst := (some 66)) (all := [(W ((((ws.getD (i - 3) 0) ^^^ (ws.getD (i - 8) 0)) ^^^ (ws.getD (i - 14) 0)) ^^^ (ws.getD (i - 16) 0))), (.int .u64 1)]) (v := (W (rl ((((ws.getD (i - 3) 0) ^^^ (ws.getD (i - 8) 0)) ^^^ (ws.getD (i - 14) 0)) ^^^ (ws.getD (i - 16) 0)) 1))) noStore (dom_none _) rfl rfl rfl rfl rfl rfl rfl rfl (none_ok _ _) (s59 _ 1 (by decide)) ?_
   intro n4 hn4
   refine PQ.pure (dst := (some 67)) (v := (.pointer (some ⟨(n + 2), i, some 0⟩))) rfl rfl rfl (app [((n + 2), some ⟨(ws.map WL), 1, 32, true⟩)] noStore) (seen_one (V := []) (D := [((n + 2), some ⟨(ws.map WL), 1, 32, true⟩), ((n + 1), some ⟨[[(.int .u32 0), (.int .u32 0), (.int .u32 0), (.int .u32 0), (.int .u32 0)]], 5, 59, true⟩), (n, some ⟨[[(W h.a), (W h.b), (W h.c), (W h.d), (W h.e)]], 5, 59, true⟩)]) (by kernel_rfl) get_here) (r_iaS (l := i) rfl rfl rfl rfl rfl rfl (by omega) (by omega) get_here rfl (by omega)) ?_
   refine PQ.op (dst := none) (v := (.tuple #[])) (n1 := n4) (d1 := [((n + 2), some ⟨((ws.set i (rl ((((ws.getD (i - 3) 0) ^^^ (ws.getD (i - 8) 0)) ^^^ (ws.getD (i - 14) 0)) ^^^ (ws.getD (i - 16) 0)) 1)).map WL), 1, 32, true⟩)]) rfl rfl rfl _ (seen_any (V := []) (D := [((n + 2), some ⟨(ws.map WL), 1, 32, true⟩), ((n + 1), some ⟨[[(.int .u32 0), (.int .u32 0), (.int .u32 0), (.int .u32 0), (.int .u32 0)]], 5, 59, true⟩), (n, some ⟨[[(W h.a), (W h.b), (W h.c), (W h.d), (W h.e)]], 5, 59, true⟩)]) (by kernel_rfl)) (r_storeWL (X := (rl ((((ws.getD (i - 3) 0) ^^^ (ws.getD (i - 8) 0)) ^^^ (ws.getD (i - 14) 0)) ^^^ (ws.getD (i - 16) 0)) 1)) rfl rfl rfl rfl rfl get_here (by rw [hl]; omega)) (by omega) (kp1 (wr_tight (by kernel_rfl) (by omega))) ?_
   refine PQ.done (d := [((n + 2), some ⟨((ws.set i (rl ((((ws.getD (i - 3) 0) ^^^ (ws.getD (i - 8) 0)) ^^^ (ws.getD (i - 14) 0)) ^^^ (ws.getD (i - 16) 0)) 1)).map WL), 1, 32, true⟩)]) (by kernel_rfl) ?_
   intro _
   refine RA.rebase [(1, (.string s)), (2, (.pointer (some ⟨n, 0, some 0⟩))), (4, (.pointer (some ⟨(n + 1), 0, some 0⟩))), (5, (.slice (some ⟨(n + 2), 0, none⟩) 80 0)), (6, (.int .i64 ((i : Nat) : Int))), (19, (.bool true)), (23, (.bool false))] ⟨rfl, rfl, rfl, rfl, rfl, rfl, rfl, trivial⟩ (fun τr5 => ?_)
   refine RA.region env_ok ?_
   refine OA.p (some 20) (.int .i64 ((i : Nat) : Int)) rfl rfl rfl rfl ?_
   refine OA.p (some 21) (.int .i64 (((i + 1) : Nat) : Int)) rfl rfl rfl (r_bin rfl rfl rfl (b_add (i64_eq (by omega)))) ?_
   refine OA.p (some 6) (.int .i64 (((i + 1) : Nat) : Int)) rfl rfl rfl rfl ?_
   refine OA.nil ?_
   refine ⟨(80 - (i + 1)), by omega, [((n + 2), some ⟨((ws.set i (rl ((((ws.getD (i - 3) 0) ^^^ (ws.getD (i - 8) 0)) ^^^ (ws.getD (i - 14) 0)) ^^^ (ws.getD (i - 16) 0)) 1)).map WL), 1, 32, true⟩), ((n + 1), some ⟨[[(.int .u32 0), (.int .u32 0), (.int .u32 0), (.int .u32 0), (.int .u32 0)]], 5, 59, true⟩), (n, some ⟨[[(W h.a), (W h.b), (W h.c), (W h.d), (W h.e)]], 5, 59, true⟩)], (Less.of (fac (mm (fun _ => get_here) (fun _ => get_here)) (fac (mm (fun _ => (get_there (by omega) get_here)) (fun _ => (gt2 (by omega) get_here))) (fac (mm (fun _ => (gt2 (by omega) get_here)) (fun _ => (gt3 (by omega) get_here))) fan))) (gone_of (by simp only [goneP, memP, List.cons_append, List.nil_append, true_or, or_true, true_and, and_true, or_false] <;> omega))), (i + 1), (ws.set i (rl ((((ws.getD (i - 3) 0) ^^^ (ws.getD (i - 8) 0)) ^^^ (ws.getD (i - 14) 0)) ^^^ (ws.getD (i - 16) 0)) 1)), rfl, by omega, ⟨rfl, rfl, rfl, rfl, rfl, trivial⟩, rfl, (kb3 (by omega)), ⟨by omega, by rw [List.length_set]; exact hl, fun j hj => (Nat.lt_or_ge j i).elim (fun h => by rw [lset_ne (by omega)]; exact hf j h) (fun h => by rw [show j = i from by omega, lset_self (by omega), wd_hi (by omega), hf _ (by omega), hf _ (by omega), hf _ (by omega), hf _ (by omega)])⟩⟩
 ·
  refine OA.p (some 19) (.bool false) rfl rfl rfl (Eq.trans (r_bin rfl rfl rfl (b_lss rfl)) (dF hc1)) ?_
  refine OA.nil ?_
  intro _
  refine RA.condF rfl ?_
  refine RA.exit env_ok ?_
  intro _
  refine RA.seq hd ?_
  refine RA.par (md := [some [], some [n], some [], some [n], some [], some [n], some [], some [n], some [], some [n], some [], some [], some [], some [], some []]) env_ok (hd.of (by omega) (kb3 (by omega))) (by kernel_rfl) ?_
  refine PQ.pure (dst := (some 68)) (v := (.pointer (some ⟨n, 0, some 0⟩))) rfl rfl rfl noStore (none_ok _ _) (r_iaA (l := 0) rfl rfl rfl rfl rfl rfl (by omega) (by omega) (by show 0 + 0 * 1 = 0; omega)) ?_
  refine PQ.pure (dst := (some 69)) (v := (W h.a)) rfl rfl rfl (app [(n, some ⟨[[(W h.a), (W h.b), (W h.c), (W h.d), (W h.e)]], 5, 59, true⟩)] noStore) (seen_one (V := []) (D := [((n + 2), some ⟨(ws.map WL), 1, 32, true⟩), ((n + 1), some ⟨[[(.int .u32 0), (.int .u32 0), (.int .u32 0), (.int .u32 0), (.int .u32 0)]], 5, 59, true⟩), (n, some ⟨[[(W h.a), (W h.b), (W h.c), (W h.d), (W h.e)]], 5, 59, true⟩)]) (by kernel_rfl) (gt2 (by omega) get_here)) (r_load1 rfl rfl rfl rfl rfl get_here rfl rfl) ?_
  refine PQ.pure (dst := (some 70)) (v := (.pointer (some ⟨n, 0, some 1⟩))) rfl rfl rfl noStore (none_ok _ _) (r_iaA (l := 1) rfl rfl rfl rfl rfl rfl (by omega) (by omega) (by show 0 + 1 * 1 = 1; omega)) ?_
  refine PQ.pure (dst := (some 71)) (v := (W h.b)) rfl rfl rfl (app [(n, some ⟨[[(W h.a), (W h.b), (W h.c), (W h.d), (W h.e)]], 5, 59, true⟩)] noStore) (seen_one (V := []) (D := [((n + 2), some ⟨(ws.map WL), 1, 32, true⟩), ((n + 1), some ⟨[[(.int .u32 0), (.int .u32 0), (.int .u32 0), (.int .u32 0), (.int .u32 0)]], 5, 59, true⟩), (n, some ⟨[[(W h.a), (W h.b), (W h.c), (W h.d), (W h.e)]], 5, 59, true⟩)]) (by kernel_rfl) (gt2 (by omega) get_here)) (r_load1 rfl rfl rfl rfl rfl get_here rfl rfl) ?_
  refine PQ.pure (dst := (some 72)) (v := (.pointer (some ⟨n, 0, some 2⟩))) rfl rfl rfl noStore (none_ok _ _) (r_iaA (l := 2) rfl rfl rfl rfl rfl rfl (by omega) (by omega) (by show 0 + 2 * 1 = 2; omega)) ?_
  refine PQ.pure (dst := (some 73)) (v := (W h.c)) rfl rfl rfl (app [(n, some ⟨[[(W h.a), (W h.b), (W h.c), (W h.d), (W h.e)]], 5, 59, true⟩)] noStore) (seen_one (V := []) (D := [((n + 2), some ⟨(ws.map WL), 1, 32, true⟩), ((n + 1), some ⟨[[(.int .u32 0), (.int .u32 0), (.int .u32 0), (.int .u32 0), (.int .u32 0)]], 5, 59, true⟩), (n, some ⟨[[(W h.a), (W h.b), (W h.c), (W h.d), (W h.e)]], 5, 59, true⟩)]) (by kernel_rfl) (gt2 (by omega) get_here)) (r_load1 rfl rfl rfl rfl rfl get_here rfl rfl) ?_
  refine PQ.pure (dst := (some 74)) (v := (.pointer (some ⟨n, 0, some 3⟩))) rfl rfl rfl noStore (none_ok _ _) (r_iaA (l := 3) rfl rfl rfl rfl rfl rfl (by omega) (by omega) (by show 0 + 3 * 1 = 3; omega)) ?_
  refine PQ.pure (dst := (some 75)) (v := (W h.d)) rfl rfl rfl (app [(n, some ⟨[[(W h.a), (W h.b), (W h.c), (W h.d), (W h.e)]], 5, 59, true⟩)] noStore) (seen_one (V := []) (D := [((n + 2), some ⟨(ws.map WL), 1, 32, true⟩), ((n + 1), some ⟨[[(.int .u32 0), (.int .u32 0), (.int .u32 0), (.int .u32 0), (.int .u32 0)]], 5, 59, true⟩), (n, some ⟨[[(W h.a), (W h.b), (W h.c), (W h.d), (W h.e)]], 5, 59, true⟩)]) (by kernel_rfl) (gt2 (by omega) get_here)) (r_load1 rfl rfl rfl rfl rfl get_here rfl rfl) ?_
  refine PQ.pure (dst := (some 76)) (v := (.pointer (some ⟨n, 0, some 4⟩))) rfl rfl rfl noStore (none_ok _ _) (r_iaA (l := 4) rfl rfl rfl rfl rfl rfl (by omega) (by omega) (by show 0 + 4 * 1 = 4; omega)) ?_
  refine PQ.pure (dst := (some 77)) (v := (W h.e)) rfl rfl rfl (app [(n, some ⟨[[(W h.a), (W h.b), (W h.c), (W h.d), (W h.e)]], 5, 59, true⟩)] noStore) (seen_one (V := []) (D := [((n + 2), some ⟨(ws.map WL), 1, 32, true⟩), ((n + 1), some ⟨[[(.int .u32 0), (.int .u32 0), (.int .u32 0), (.int .u32 0), (.int .u32 0)]], 5, 59, true⟩), (n, some ⟨[[(W h.a), (W h.b), (W h.c), (W h.d), (W h.e)]], 5, 59, true⟩)]) (by kernel_rfl) (gt2 (by omega) get_here)) (r_load1 rfl rfl rfl rfl rfl get_here rfl rfl) ?_
  refine PQ.pure (dst := (some 9)) (v := (W h.a)) rfl rfl rfl noStore (none_ok _ _) rfl ?_
  refine PQ.pure (dst := (some 10)) (v := (W h.b)) rfl rfl rfl noStore (none_ok _ _) rfl ?_
  refine PQ.pure (dst := (some 11)) (v := (W h.c)) rfl rfl rfl noStore (none_ok _ _) rfl ?_
  refine PQ.pure (dst := (some 12)) (v := (W h.d)) rfl rfl rfl noStore (none_ok _ _) rfl ?_
  refine PQ.pure (dst := (some 13)) (v := (W h.e)) rfl rfl rfl noStore (none_ok _ _) rfl ?_
  refine PQ.done (d := []) (by kernel_rfl) ?_
  intro _
  refine RA.seq hd ?_
  refine RA.seq hd ?_
  refine RA.region env_ok ?_
  refine OA.p (some 14) (.int .i64 0) rfl rfl rfl rfl ?_
  refine OA.nil ?_
  intro _
  refine RA.block ?_
  obtain rfl := list_of (d := 0#32) hl (fun j hj => hf j (by omega))
  refine RA.loop hd (fun kk_ τ n' D => ∃ i : Nat,  kk_ = (80 - i) ∧ n1 ≤ n' ∧ Has τ [(2, (.pointer (some ⟨n, 0, some 0⟩))), (4, (.pointer (some ⟨(n + 1), 0, some 0⟩))), (5, (.slice (some ⟨(n + 2), 0, none⟩) 80 0)), (9, (W (rd (wd s) h i).a)), (10, (W (rd (wd s) h i).b)), (11, (W (rd (wd s) h i).c)), (12, (W (rd (wd s) h i).d)), (13, (W (rd (wd s) h i).e)), (14, (.int .i64 ((i : Nat) : Int)))] ∧ D = [((n + 2), some ⟨(((List.range 80).map (wd s)).map WL), 1, 32, true⟩), ((n + 1), some ⟨[[(.int .u32 0), (.int .u32 0), (.int .u32 0), (.int .u32 0), (.int .u32 0)]], 5, 59, true⟩), (n, some ⟨[[(W h.a), (W h.b), (W h.c), (W h.d), (W h.e)]], 5, 59, true⟩)] ∧ (∀ i ∈ keys D, i < n') ∧ i ≤ 80) ((80 - 0)) ⟨0, rfl, by omega, ⟨rfl, rfl, rfl, rfl, rfl, rfl, rfl, rfl, rfl, trivial⟩, rfl, (kb3 (by omega)), by omega⟩ ?_
  rintro kn6 τ6 n6 _ ⟨i, rfl, hn6, hHn6, rfl, hKn6, hIn6⟩
  rw [Has.eq hHn6]
  have hKn6_0 : (n + 2) < n6 := hKn6 _ (by simp only [keys, List.map_cons, List.map_nil, List.mem_cons, true_or, or_true])
  have hKn6_1 : (n + 1) < n6 := hKn6 _ (by simp only [keys, List.map_cons, List.map_nil, List.mem_cons, true_or, or_true])
  have hKn6_2 : n < n6 := hKn6 _ (by simp only [keys, List.map_cons, List.map_nil, List.mem_cons, true_or, or_true])
  simp only [keys, List.map, List.forall_mem_cons, List.mem_cons, List.not_mem_nil, false_imp_iff, implies_true, and_true] at hKn6
  refine RA.seq hd ?_
  refine RA.seq hd ?_
  refine RA.region env_ok ?_
  refine OA.p (some 78) (.int .i64 ((i : Nat) : Int)) rfl rfl rfl rfl ?_
  by_cases hc3 : ((i : Nat) : Int) < 80
  ·
   refine OA.p (some 79) (.bool true) rfl rfl rfl (Eq.trans (r_bin rfl rfl rfl (b_lss rfl)) (dT hc3)) ?_
   refine OA.nil ?_
   intro _
   refine RA.condT rfl ?_
   refine RA.skip env_ok ?_
   intro _
   refine RA.seq hd ?_
   refine RA.block ?_
   refine RA.seq hd ?_
   refine RA.region env_ok ?_
   refine OA.p (some 83) (.int .i64 ((i : Nat) : Int)) rfl rfl rfl rfl ?_
   refine OA.p (some 84) (W (rd (wd s) h i).b) rfl rfl rfl rfl ?_
   refine OA.p (some 85) (W (rd (wd s) h i).c) rfl rfl rfl rfl ?_
   refine OA.p (some 86) (W (rd (wd s) h i).d) rfl rfl rfl rfl ?_
   refine OA.callP (dst := (some 87)) (all := [(.int .i64 ((i : Nat) : Int)), (W (rd (wd s) h i).b), (W (rd (wd s) h i).c), (W (rd (wd s) h i).d)]) (v := (.tuple ⟨[(W (fk i (rd (wd s) h i).b (rd (wd s) h i).c (rd (wd s) h i).d).1), (W (fk i (rd (wd s) h i).b (rd (wd s) h i).c (rd (wd s) h i).d).2)]⟩)) (hd.of (by omega) (kb3 (by omega))) rfl rfl rfl rfl rfl rfl rfl rfl (s60 i (by omega) _ _ _) ?_
   intro n7 hn7
   refine OA.p (some 82) (.tuple ⟨[(W (fk i (rd (wd s) h i).b (rd (wd s) h i).c (rd (wd s) h i).d).1), (W (fk i (rd (wd s) h i).b (rd (wd s) h i).c (rd (wd s) h i).d).2)]⟩) rfl rfl rfl rfl ?_
   refine OA.p (some 88) (W (fk i (rd (wd s) h i).b (rd (wd s) h i).c (rd (wd s) h i).d).1) rfl rfl rfl rfl ?_
   refine OA.p (some 89) (W (fk i (rd (wd s) h i).b (rd (wd s) h i).c (rd (wd s) h i).d).2) rfl rfl rfl rfl ?_
   refine OA.p (some 15) (W (fk i (rd (wd s) h i).b (rd (wd s) h i).c (rd (wd s) h i).d).1) rfl rfl rfl rfl ?_
   refine OA.p (some 16) (W (fk i (rd (wd s) h i).b (rd (wd s) h i).c (rd (wd s) h i).d).2) rfl rfl rfl rfl ?_
   refine OA.nil ?_
   intro _
   refine RA.par (md := [some [], some [], some [], some [], some [], some [], some [], some [], some [], some [], some [(n + 2)], some [(n + 2)], some [], some [], some [], some [], some [], some [], some [], some [], some [], some [], some []]) env_ok (hd.of (by omega) (kb3 (by omega))) (by kernel_rfl) ?_
   refine PQ.pure (dst := (some 90)) (v := (W (rd (wd s) h i).a)) rfl rfl rfl noStore (none_ok _ _) rfl ?_
   refine PQ.callP (dst := (some 91)) (all := [(W (rd (wd s) h i).a), (.int .u64 5)]) (v := (W (rl (rd (wd s) h i).a 5))) noStore (dom_none _) rfl rfl rfl rfl rfl rfl rfl rfl (none_ok _ _) (s59 _ 5 (by decide)) ?_
   intro n8 hn8
   refine PQ.pure (dst := (some 92)) (v := (W (fk i (rd (wd s) h i).b (rd (wd s) h i).c (rd (wd s) h i).d).1)) rfl rfl rfl noStore (none_ok _ _) rfl ?_
   refine PQ.pure (dst := (some 93)) (v := (W ((rl (rd (wd s) h i).a 5) + (fk i (rd (wd s) h i).b (rd (wd s) h i).c (rd (wd s) h i).d).1))) rfl rfl rfl noStore (none_ok _ _) (r_bin rfl rfl rfl (b_addW (rl (rd (wd s) h i).a 5) (fk i (rd (wd s) h i).b (rd (wd s) h i).c (rd (wd s) h i).d).1)) ?_
   refine PQ.pure (dst := (some 94)) (v := (W (rd (wd s) h i).e)) rfl rfl rfl noStore (none_ok _ _) rfl ?_
   refine PQ.pure (dst := (some 95)) (v := (W (((rl (rd (wd s) h i).a 5) + (fk i (rd (wd s) h i).b (rd (wd s) h i).c (rd (wd s) h i).d).1) + (rd (wd s) h i).e))) rfl rfl rfl noStore (none_ok _ _) (r_bin rfl rfl rfl (b_addW ((rl (rd (wd s) h i).a 5) + (fk i (rd (wd s) h i).b (rd (wd s) h i).c (rd (wd s) h i).d).1) (rd (wd s) h i).e)) ?_
   refine PQ.pure (dst := (some 96)) (v := (W (fk i (rd (wd s) h i).b (rd (wd s) h i).c (rd (wd s) h i).d).2)) rfl rfl rfl noStore (none_ok _ _) rfl ?_
   refine PQ.pure (dst := (some 97)) (v := (W ((((rl (rd (wd s) h i).a 5) + (fk i (rd (wd s) h i).b (rd (wd s) h i).c (rd (wd s) h i).d).1) + (rd (wd s) h i).e) + (fk i (rd (wd s) h i).b (rd (wd s) h i).c (rd (wd s) h i).d).2))) rfl rfl rfl noStore (none_ok _ _) (r_bin rfl rfl rfl (b_addW (((rl (rd (wd s) h i).a 5) + (fk i (rd (wd s) h i).b (rd (wd s) h i).c (rd (wd s) h i).d).1) + (rd (wd s) h i).e) (fk i (rd (wd s) h i).b (rd (wd s) h i).c (rd (wd s) h i).d).2)) ?_
   refine PQ.pure (dst := (some 98)) (v := (.slice (some ⟨(n + 2), 0, none⟩) 80 0)) rfl rfl rfl noStore (none_ok _ _) rfl ?_
   refine PQ.pure (dst := (some 99)) (v := (.int .i64 ((i : Nat) : Int))) rfl rfl rfl noStore (none_ok _ _) rfl ?_
   refine PQ.pure (dst := (some 100)) (v := (.pointer (some ⟨(n + 2), i, some 0⟩))) rfl rfl rfl (app [((n + 2), some ⟨(((List.range 80).map (wd s)).map WL), 1, 32, true⟩)] noStore) (seen_one (V := []) (D := [((n + 2), some ⟨(((List.range 80).map (wd s)).map WL), 1, 32, true⟩), ((n + 1), some ⟨[[(.int .u32 0), (.int .u32 0), (.int .u32 0), (.int .u32 0), (.int .u32 0)]], 5, 59, true⟩), (n, some ⟨[[(W h.a), (W h.b), (W h.c), (W h.d), (W h.e)]], 5, 59, true⟩)]) (by kernel_rfl) get_here) (r_iaS (l := i) rfl rfl rfl rfl rfl rfl (by omega) (by omega) get_here rfl (by omega)) ?_
   refine PQ.pure (dst := (some 101)) (v := (W ((wd s) i))) rfl rfl rfl (app [((n + 2), some ⟨(((List.range 80).map (wd s)).map WL), 1, 32, true⟩)] noStore) (seen_one (V := []) (D := [((n + 2), some ⟨(((List.range 80).map (wd s)).map WL), 1, 32, true⟩), ((n + 1), some ⟨[[(.int .u32 0), (.int .u32 0), (.int .u32 0), (.int .u32 0), (.int .u32 0)]], 5, 59, true⟩), (n, some ⟨[[(W h.a), (W h.b), (W h.c), (W h.d), (W h.e)]], 5, 59, true⟩)]) (by kernel_rfl) get_here) (r_load1 rfl rfl rfl rfl rfl get_here (mapWLf_get (by omega)) rfl) ?_
   refine PQ.pure (dst := (some 102)) (v := (W (((((rl (rd (wd s) h i).a 5) + (fk i (rd (wd s) h i).b (rd (wd s) h i).c (rd (wd s) h i).d).1) + (rd (wd s) h i).e) + (fk i (rd (wd s) h i).b (rd (wd s) h i).c (rd (wd s) h i).d).2) + ((wd s) i)))) rfl rfl rfl noStore (none_ok _ _) (r_bin rfl rfl rfl (b_addW ((((rl (rd (wd s) h i).a 5) + (fk i (rd (wd s) h i).b (rd (wd s) h i).c (rd (wd s) h i).d).1) + (rd (wd s) h i).e) + (fk i (rd (wd s) h i).b (rd (wd s) h i).c (rd (wd s) h i).d).2) ((wd s) i))) ?_
   refine PQ.pure (dst := (some 103)) (v := (W (rd (wd s) h i).a)) rfl rfl rfl noStore (none_ok _ _) rfl ?_
   refine PQ.pure (dst := (some 104)) (v := (W (rd (wd s) h i).b)) rfl rfl rfl noStore (none_ok _ _) rfl ?_
   refine PQ.callP (dst := (some 105)) (all := [(W (rd (wd s) h i).b), (.int .u64 30)]) (v := (W (rl (rd (wd s) h i).b 30))) noStore (dom_none _) rfl rfl rfl rfl rfl rfl rfl rfl (none_ok _ _) (s59 _ 30 (by decide)) ?_
   intro n9 hn9
   refine PQ.pure (dst := (some 106)) (v := (W (rd (wd s) h i).c)) rfl rfl rfl noStore (none_ok _ _) rfl ?_
   refine PQ.pure (dst := (some 107)) (v := (W (rd (wd s) h i).d)) rfl rfl rfl noStore (none_ok _ _) rfl ?_
   refine PQ.pure (dst := (some 9)) (v := (W (((((rl (rd (wd s) h i).a 5) + (fk i (rd (wd s) h i).b (rd (wd s) h i).c (rd (wd s) h i).d).1) + (rd (wd s) h i).e) + (fk i (rd (wd s) h i).b (rd (wd s) h i).c (rd (wd s) h i).d).2) + ((wd s) i)))) rfl rfl rfl noStore (none_ok _ _) rfl ?_
   refine PQ.pure (dst := (some 10)) (v := (W (rd (wd s) h i).a)) rfl rfl rfl noStore (none_ok _ _) rfl ?_
   refine PQ.pure (dst := (some 11)) (v := (W (rl (rd (wd s) h i).b 30))) rfl rfl rfl noStore (none_ok _ _) rfl ?_
   refine PQ.pure (dst := (some 12)) (v := (W (rd (wd s) h i).c)) rfl rfl rfl noStore (none_ok _ _) rfl ?_
   refine PQ.pure (dst := (some 13)) (v := (W (rd (wd s) h i).d)) rfl rfl rfl noStore (none_ok _ _) rfl ?_
   refine PQ.done (d := []) (by kernel_rfl) ?_
   intro _
   refine RA.rebase [(2, (.pointer (some ⟨n, 0, some 0⟩))), (4, (.pointer (some ⟨(n + 1), 0, some 0⟩))), (5, (.slice (some ⟨(n + 2), 0, none⟩) 80 0)), (9, (W (((((rl (rd (wd s) h i).a 5) + (fk i (rd (wd s) h i).b (rd (wd s) h i).c (rd (wd s) h i).d).1) + (rd (wd s) h i).e) + (fk i (rd (wd s) h i).b (rd (wd s) h i).c (rd (wd s) h i).d).2) + ((wd s) i)))), (10, (W (rd (wd s) h i).a)), (11, (W (rl (rd (wd s) h i).b 30))), (12, (W (rd (wd s) h i).c)), (13, (W (rd (wd s) h i).d)), (14, (.int .i64 ((i : Nat) : Int))), (15, (W (fk i (rd (wd s) h i).b (rd (wd s) h i).c (rd (wd s) h i).d).1)), (16, (W (fk i (rd (wd s) h i).b (rd (wd s) h i).c (rd (wd s) h i).d).2)), (79, (.bool true))] ⟨rfl, rfl, rfl, rfl, rfl, rfl, rfl, rfl, rfl, rfl, rfl, rfl, trivial⟩ (fun τr10 => ?_)
   refine RA.region env_ok ?_
   refine OA.p (some 80) (.int .i64 ((i : Nat) : Int)) rfl rfl rfl rfl ?_
   refine OA.p (some 81) (.int .i64 (((i + 1) : Nat) : Int)) rfl rfl rfl (r_bin rfl rfl rfl (b_add (i64_eq (by omega)))) ?_
   refine OA.p (some 14) (.int .i64 (((i + 1) : Nat) : Int)) rfl rfl rfl rfl ?_
   refine OA.nil ?_
   refine ⟨(80 - (i + 1)), by omega, [((n + 2), some ⟨(((List.range 80).map (wd s)).map WL), 1, 32, true⟩), ((n + 1), some ⟨[[(.int .u32 0), (.int .u32 0), (.int .u32 0), (.int .u32 0), (.int .u32 0)]], 5, 59, true⟩), (n, some ⟨[[(W h.a), (W h.b), (W h.c), (W h.d), (W h.e)]], 5, 59, true⟩)], (Less.refl _ _ _), (i + 1), rfl, by omega, ⟨rfl, rfl, rfl, rfl, rfl, rfl, rfl, rfl, rfl, trivial⟩, rfl, (kb3 (by omega)), by omega⟩
  ·
   refine OA.p (some 79) (.bool false) rfl rfl rfl (Eq.trans (r_bin rfl rfl rfl (b_lss rfl)) (dF hc3)) ?_
   refine OA.nil ?_
   intro _
   refine RA.condF rfl ?_
   refine RA.exit env_ok ?_
   intro _
   refine RA.seq hd ?_
   refine RA.region env_ok ?_
   refine OA.p (some 108) (.pointer (some ⟨n, 0, some 0⟩)) rfl rfl rfl (r_iaA (l := 0) rfl rfl rfl rfl rfl rfl (by omega) (by omega) (by show 0 + 0 * 1 = 0; omega)) ?_
   refine OA.p (some 109) (W h.a) rfl rfl rfl (r_load1 rfl rfl rfl rfl rfl (gt2 (by omega) get_here) rfl rfl) ?_
   refine OA.p (some 110) (W (rd (wd s) h i).a) rfl rfl rfl rfl ?_
   refine OA.p (some 111) (W (h.a + (rd (wd s) h i).a)) rfl rfl rfl (r_bin rfl rfl rfl (b_addW h.a (rd (wd s) h i).a)) ?_
   refine OA.p (some 112) (.pointer (some ⟨n, 0, some 1⟩)) rfl rfl rfl (r_iaA (l := 1) rfl rfl rfl rfl rfl rfl (by omega) (by omega) (by show 0 + 1 * 1 = 1; omega)) ?_
   refine OA.p (some 113) (W h.b) rfl rfl rfl (r_load1 rfl rfl rfl rfl rfl (gt2 (by omega) get_here) rfl rfl) ?_
   refine OA.p (some 114) (W (rd (wd s) h i).b) rfl rfl rfl rfl ?_
   refine OA.p (some 115) (W (h.b + (rd (wd s) h i).b)) rfl rfl rfl (r_bin rfl rfl rfl (b_addW h.b (rd (wd s) h i).b)) ?_
   refine OA.p (some 116) (.pointer (some ⟨n, 0, some 2⟩)) rfl rfl rfl (r_iaA (l := 2) rfl rfl rfl rfl rfl rfl (by omega) (by omega) (by show 0 + 2 * 1 = 2; omega)) ?_
   refine OA.p (some 117) (W h.c) rfl rfl rfl (r_load1 rfl rfl rfl rfl rfl (gt2 (by omega) get_here) rfl rfl) ?_
   refine OA.p (some 118) (W (rd (wd s) h i).c) rfl rfl rfl rfl ?_
   refine OA.p (some 119) (W (h.c + (rd (wd s) h i).c)) rfl rfl rfl (r_bin rfl rfl rfl (b_addW h.c (rd (wd s) h i).c)) ?_
   refine OA.p (some 120) (.pointer (some ⟨n, 0, some 3⟩)) rfl rfl rfl (r_iaA (l := 3) rfl rfl rfl rfl rfl rfl (by omega) (by omega) (by show 0 + 3 * 1 = 3; omega)) ?_
   refine OA.p (some 121) (W h.d) rfl rfl rfl (r_load1 rfl rfl rfl rfl rfl (gt2 (by omega) get_here) rfl rfl) ?_
   refine OA.p (some 122) (W (rd (wd s) h i).d) rfl rfl rfl rfl ?_
   refine OA.p (some 123) (W (h.d + (rd (wd s) h i).d)) rfl rfl rfl (r_bin rfl rfl rfl (b_addW h.d (rd (wd s) h i).d)) ?_
   refine OA.p (some 124) (.pointer (some ⟨n, 0, some 4⟩)) rfl rfl rfl (r_iaA (l := 4) rfl rfl rfl rfl rfl rfl (by omega) (by omega) (by show 0 + 4 * 1 = 4; omega)) ?_
   refine OA.p (some 125) (W h.e) rfl rfl rfl (r_load1 rfl rfl rfl rfl rfl (gt2 (by omega) get_here) rfl rfl) ?_
   refine OA.p (some 126) (W (rd (wd s) h i).e) rfl rfl rfl rfl ?_
   refine OA.p (some 127) (W (h.e + (rd (wd s) h i).e)) rfl rfl rfl (r_bin rfl rfl rfl (b_addW h.e (rd (wd s) h i).e)) ?_
   refine OA.p (some 128) (.agg ⟨[(W (h.a + (rd (wd s) h i).a)), (W (h.b + (rd (wd s) h i).b)), (W (h.c + (rd (wd s) h i).c)), (W (h.d + (rd (wd s) h i).d)), (W (h.e + (rd (wd s) h i).e))]⟩) rfl rfl rfl (by kernel_rfl) ?_
   refine OA.op1 (dst := none) (v := (.tuple #[])) (n1 := n6) (w := ((n + 1), some ⟨[[(W (h.a + (rd (wd s) h i).a)), (W (h.b + (rd (wd s) h i).b)), (W (h.c + (rd (wd s) h i).c)), (W (h.d + (rd (wd s) h i).d)), (W (h.e + (rd (wd s) h i).e))]], 5, 59, true⟩)) rfl rfl rfl (r_store rfl rfl rfl rfl rfl rfl rfl (get_there (by omega) get_here) rfl rfl (Nat.le_of_ble_eq_true rfl) rfl) (by omega) ?_
   refine OA.nil ?_
   intro _
   refine RA.ret env_ok ?_
   refine ⟨.inr rfl, [(.agg ⟨[(W (h.a + (rd (wd s) h i).a)), (W (h.b + (rd (wd s) h i).b)), (W (h.c + (rd (wd s) h i).c)), (W (h.d + (rd (wd s) h i).d)), (W (h.e + (rd (wd s) h i).e))]⟩)], (resL_cons (res_cellA rfl rfl rfl get_here rfl rfl rfl) resL_nil), (by rw [show i = 80 from (by omega)]; rfl), (kc4 (by omega))⟩

theorem s42t {σ : Store} (t : ByteArray) (j : Nat) (h : 64 * j + 64 ≤ t.size) : PS Try.prog noDen 42 [(.agg ⟨[(W (hs t j).a), (W (hs t j).b), (W (hs t j).c), (W (hs t j).d), (W (hs t j).e)]⟩), (.string (t.extract (64 * j) ((64 * j) + 64)))] σ (.agg ⟨[(W (hs t (j + 1)).a), (W (hs t (j + 1)).b), (W (hs t (j + 1)).c), (W (hs t (j + 1)).d), (W (hs t (j + 1)).e)]⟩) := by
  have h1 := s42 (σ := σ) (hs t j) (t.extract (64 * j) ((64 * j) + 64)) (by rw [size_cut _ _ _ (by omega)]; omega)
  rw [show blk (hs t j) (t.extract (64 * j) ((64 * j) + 64)) = hs t (j + 1) from by rw [hs]] at h1
  exact h1
end Go.Proofs.Ytdnkhdkflemkeaa.Vt
