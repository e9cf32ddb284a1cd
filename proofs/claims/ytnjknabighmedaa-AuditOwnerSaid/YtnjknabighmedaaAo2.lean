/- Ao2: walks through functions of the program, by the calculus; written by a program of this workplace. -/
import Derived.Test.YtnjknabighmedaaAo1
import Derived.Test.YtnjknabighmedaaVm5
namespace Go.Proofs.Ytnjknabighmedaa.Vt
open Go Go.Proofs Go.Proofs.YtnjknabighmedaaV
set_option maxRecDepth 100000
set_option linter.unusedVariables false
set_option linter.unusedSimpArgs false
abbrev xAo21 (cl : List Chk) (jan2 : Nat) (jbn2 : Nat) : List Value := [(.int .i64 (cl.getD 0 dChk).typ), (.int .i64 (cl.getD 0 dChk).flags), (W (cl.getD 0 dChk).tsn), (.int .i64 (cl.getD 0 dChk).stream), (.int .i64 (cl.getD 0 dChk).ssn), (W (cl.getD 0 dChk).proto), (.string ((cl.getD 0 dChk).data.extract 0 (min (cl.getD 0 dChk).data.size 950))), (W (cl.getD 0 dChk).tag), (W (cl.getD 0 dChk).rwnd), (.int .i64 (cl.getD 0 dChk).outs), (.int .i64 (cl.getD 0 dChk).ins), (.slice (some ⟨jan2, 0, none⟩) (min (cl.getD 0 dChk).ps.length 18) 0), (.slice (some ⟨jbn2, 0, none⟩) (min (cl.getD 0 dChk).cs.length 18) 0), (cutV (cl.getD 0 dChk).gv (min (cl.getD 0 dChk).gs.length 18)), (cutV (cl.getD 0 dChk).dv (min (cl.getD 0 dChk).ds.length 18))]
abbrev xAo22 (cl : List Chk) (i : Nat) (jan3 : Nat) (jbn3 : Nat) : List Value := [(.int .i64 (cl.getD i dChk).typ), (.int .i64 (cl.getD i dChk).flags), (W (cl.getD i dChk).tsn), (.int .i64 (cl.getD i dChk).stream), (.int .i64 (cl.getD i dChk).ssn), (W (cl.getD i dChk).proto), (.string ((cl.getD i dChk).data.extract 0 (min (cl.getD i dChk).data.size 950))), (W (cl.getD i dChk).tag), (W (cl.getD i dChk).rwnd), (.int .i64 (cl.getD i dChk).outs), (.int .i64 (cl.getD i dChk).ins), (.slice (some ⟨jan3, 0, none⟩) (min (cl.getD i dChk).ps.length 18) 0), (.slice (some ⟨jbn3, 0, none⟩) (min (cl.getD i dChk).cs.length 18) 0), (cutV (cl.getD i dChk).gv (min (cl.getD i dChk).gs.length 18)), (cutV (cl.getD i dChk).dv (min (cl.getD i dChk).ds.length 18))]
theorem oCut {n : Nat} {σ : Store} (hd : Dom n σ) (hn0 : 0 < n) (f t : Int) (g : BitVec 32) (v : Value) (cl : List Chk) (hr : RowP σ 50 15 v (cl.map cChk)) (hcl : ∀ c ∈ cl, okChk σ c)   : CQ Try.prog noDen 17 [(.agg ⟨[(.int .i64 f), (.int .i64 t), (W g), v]⟩)] n σ (fun v n' d => ∃ a K, v = .agg ⟨[.int .i64 f, .int .i64 t, W g, .slice a K 0]⟩ ∧ d = []) := by
 have rl := hr.lt hd hn0
 refine CQ.body (E := env) env_ok hd rfl rfl (by show _ ≤ _; exact of_decide_eq_true (by kernel_rfl)) ?_
 refine RA.seq hd ?_
 refine RA.region env_ok ?_
 refine OA.op1 (dst := (some 1)) (v := (Pt n 0 0)) (n1 := (n + 1)) (w := (n, some ⟨[[(.int .i64 f), (.int .i64 t), (W g), v]], 4, 33, true⟩)) rfl rfl rfl (r_box (cs := [(.int .i64 f), (.int .i64 t), (W g), v]) rfl rfl rfl (Nat.le_of_ble_eq_true rfl) (by simp only [List.all_cons, List.all_nil, Bool.and_true, Bool.and_eq_true]; exact ⟨rfl, rfl, rfl, (hr).one⟩)) (by omega) ?_
 refine OA.op1 (dst := (some 2)) (v := (.pointer (some ⟨(n + 1), 0, some 0⟩))) (n1 := (n + 2)) (w := ((n + 1), some ⟨[[(.int .i64 0), (.int .i64 0), (.int .u32 0), (.slice none 0 0)]], 4, 33, true⟩)) rfl rfl rfl rfl (by omega) ?_
 refine OA.nil ?_
 intro _
 refine RA.seq hd ?_
 refine RA.region env_ok ?_
 refine OA.p (some 5) (Pt n 0 0) rfl rfl rfl rfl ?_
 refine OA.p (some 6) (.int .i64 f) rfl rfl rfl (r_load1 rfl rfl rfl rfl rfl (get_there (by omega) get_here) rfl rfl) ?_
 refine OA.p (some 7) (Pt n 0 1) rfl rfl rfl rfl ?_
 refine OA.p (some 8) (.int .i64 t) rfl rfl rfl (r_load1 rfl rfl rfl rfl rfl (get_there (by omega) get_here) rfl rfl) ?_
 refine OA.p (some 9) (Pt n 0 2) rfl rfl rfl rfl ?_
 refine OA.p (some 10) (W g) rfl rfl rfl (r_load1 rfl rfl rfl rfl rfl (get_there (by omega) get_here) rfl rfl) ?_
 refine OA.p (some 11) (.agg ⟨[(.int .i64 f), (.int .i64 t), (W g), (.slice none 0 0)]⟩) rfl rfl rfl (by kernel_rfl) ?_
 refine OA.op1 (dst := (some 3)) (v := (.pointer (some ⟨(n + 2), 0, some 0⟩))) (n1 := (n + 3)) (w := ((n + 2), some ⟨[[(.int .i64 0), (.int .i64 0), (.int .u32 0), (.slice none 0 0)]], 4, 33, true⟩)) rfl rfl rfl rfl (by omega) ?_
 refine OA.op1 (dst := none) (v := (.tuple #[])) (n1 := (n + 3)) (w := ((n + 2), some ⟨[[(.int .i64 f), (.int .i64 t), (W g), (.slice none 0 0)]], 4, 33, true⟩)) rfl rfl rfl (r_store rfl rfl rfl rfl rfl rfl rfl get_here rfl rfl (Nat.le_of_ble_eq_true rfl) rfl) (by omega) ?_
 refine OA.nil ?_
 intro _
 refine RA.seq hd ?_
 refine RA.seq hd ?_
 refine RA.region env_ok ?_
 refine OA.p (some 4) (.int .i64 0) rfl rfl rfl rfl ?_
 refine OA.nil ?_
 intro _
 refine RA.block ?_
 refine RA.weaken (D' := [(n, some ⟨[[(.int .i64 f), (.int .i64 t), (W g), v]], 4, 33, true⟩), ((n + 1), some ⟨[[(.int .i64 0), (.int .i64 0), (.int .u32 0), (.slice none 0 0)]], 4, 33, true⟩), ((n + 2), some ⟨[[(.int .i64 f), (.int .i64 t), (W g), (.slice none 0 0)]], 4, 33, true⟩)]) hd (Less.of (fac (mm (fun _ => get_here) (fun _ => (gt3 (by omega) get_here))) (fac (mm (fun _ => (get_there (by omega) get_here)) (fun _ => (gt2 (by omega) get_here))) (fac (mm (fun _ => (gt2 (by omega) get_here)) (fun _ => get_here)) fan))) (gone_of (by simp only [goneP, memP, List.cons_append, List.nil_append, true_or, or_true, true_and, and_true, or_false] <;> omega))) ?_
 refine RA.loop hd (fun kk_ τ n' D => (kk_ = 30 ∧ (n + 3) ≤ n' ∧ Has τ [(1, (Pt n 0 0)), (2, (.pointer (some ⟨(n + 1), 0, some 0⟩))), (3, (.pointer (some ⟨(n + 2), 0, some 0⟩))), (4, (.int .i64 0))] ∧ D = [(n, some ⟨[[(.int .i64 f), (.int .i64 t), (W g), v]], 4, 33, true⟩), ((n + 1), some ⟨[[(.int .i64 0), (.int .i64 0), (.int .u32 0), (.slice none 0 0)]], 4, 33, true⟩), ((n + 2), some ⟨[[(.int .i64 f), (.int .i64 t), (W g), (.slice none 0 0)]], 4, 33, true⟩)] ∧ (∀ i ∈ keys D, i < n') ∧ 0 ≤ n) ∨ (∃ i : Nat, ∃ j : Nat, ∃ ls : List (List Value), kk_ = (29 - i) ∧ (n + 3) ≤ n' ∧ Has τ [(1, (Pt n 0 0)), (2, (.pointer (some ⟨(n + 1), 0, some 0⟩))), (3, (.pointer (some ⟨(n + 2), 0, some 0⟩))), (4, (.int .i64 ((i : Nat) : Int)))] ∧ D = [(n, some ⟨[[(.int .i64 f), (.int .i64 t), (W g), v]], 4, 33, true⟩), ((n + 1), some ⟨[[(.int .i64 0), (.int .i64 0), (.int .u32 0), (.slice none 0 0)]], 4, 33, true⟩), ((n + 2), some ⟨[[(.int .i64 f), (.int .i64 t), (W g), (.slice (some ⟨j, 0, none⟩) i 0)]], 4, 33, true⟩), (j, some ⟨ls, 15, 50, true⟩)] ∧ (∀ i ∈ keys D, i < n') ∧ i ≤ cl.length ∧ i ≤ 22 ∧ n + 3 ≤ j ∧ ls.length = i)) (30) (.inl (⟨rfl, by omega, ⟨rfl, rfl, rfl, rfl, trivial⟩, rfl, (kb3 (by omega)), by omega⟩)) ?_
 rintro kn1 τ1 n1 Dn1 hSn1
 rcases hSn1 with ⟨rfl, hn1, hHn1, rfl, hKn1, hIn1⟩ | ⟨i, j, ls, rfl, hn1, hHn1, rfl, hKn1, hIn1⟩
 ·
  rw [Has.eq hHn1]
  have hKn1_0 : n < n1 := hKn1 _ (by simp only [keys, List.map_cons, List.map_nil, List.mem_cons, true_or, or_true])
  have hKn1_1 : (n + 1) < n1 := hKn1 _ (by simp only [keys, List.map_cons, List.map_nil, List.mem_cons, true_or, or_true])
  have hKn1_2 : (n + 2) < n1 := hKn1 _ (by simp only [keys, List.map_cons, List.map_nil, List.mem_cons, true_or, or_true])
  clear hKn1
  refine RA.seq hd ?_
  refine RA.seq hd ?_
  refine RA.region env_ok ?_
  refine OA.p (some 12) (.int .i64 0) rfl rfl rfl rfl ?_
  refine OA.p (some 13) (Pt n 0 3) rfl rfl rfl rfl ?_
  refine OA.p (some 14) v rfl rfl rfl (r_load1 rfl rfl rfl rfl rfl get_here rfl rfl) ?_
  refine OA.p (some 15) (.int .i64 ((cl.length : Nat) : Int)) rfl rfl rfl (r_lenP (c := cChk) rfl rfl rfl rfl rfl rfl hr rfl) ?_
  by_cases hc1 : 0 < ((cl.length : Nat) : Int)
  ·
   obtain ⟨rest, hat⟩ := hr.get (m := 0) (by omega)
   have lathat := hd.lt hat
   refine OA.p (some 16) (.bool true) rfl rfl rfl (Eq.trans (r_bin rfl rfl rfl (b_lss rfl)) (dT hc1)) ?_
   refine OA.p (some 17) (.bool true) rfl rfl rfl rfl ?_
   refine OA.p (some 18) (.int .i64 0) rfl rfl rfl rfl ?_
   refine OA.p (some 19) (.bool true) rfl rfl rfl (r_bin rfl rfl rfl (b_lss rfl)) ?_
   refine OA.p (some 20) (.bool true) rfl rfl rfl rfl ?_
   refine OA.nil ?_
   intro _
   refine RA.condT rfl ?_
   refine RA.skip env_ok ?_
   intro _
   refine RA.seq hd ?_
   refine RA.block ?_
   refine RA.par (md := [some [], some [(n + 2)], some [], some [n], some [], none, none, none, some [], none, some [], none]) env_ok (hd.of (by omega) (kb3 (by omega))) (by kernel_rfl) ?_
   refine PQ.pure (dst := (some 23)) (v := (.pointer (some ⟨(n + 2), 0, some 3⟩))) rfl rfl rfl noStore (none_ok _ _) rfl ?_
   refine PQ.pure (dst := (some 24)) (v := (.slice none 0 0)) rfl rfl rfl (app [((n + 2), some ⟨[[(.int .i64 f), (.int .i64 t), (W g), (.slice none 0 0)]], 4, 33, true⟩)] noStore) (seen_one (V := []) (D := [(n, some ⟨[[(.int .i64 f), (.int .i64 t), (W g), v]], 4, 33, true⟩), ((n + 1), some ⟨[[(.int .i64 0), (.int .i64 0), (.int .u32 0), (.slice none 0 0)]], 4, 33, true⟩), ((n + 2), some ⟨[[(.int .i64 f), (.int .i64 t), (W g), (.slice none 0 0)]], 4, 33, true⟩)]) (by kernel_rfl) (gt2 (by omega) get_here)) (r_load1 rfl rfl rfl rfl rfl get_here rfl rfl) ?_
   refine PQ.pure (dst := (some 25)) (v := (Pt n 0 3)) rfl rfl rfl noStore (none_ok _ _) rfl ?_
   refine PQ.pure (dst := (some 26)) (v := v) rfl rfl rfl (app [(n, some ⟨[[(.int .i64 f), (.int .i64 t), (W g), v]], 4, 33, true⟩)] noStore) (seen_one (V := []) (D := [(n, some ⟨[[(.int .i64 f), (.int .i64 t), (W g), v]], 4, 33, true⟩), ((n + 1), some ⟨[[(.int .i64 0), (.int .i64 0), (.int .u32 0), (.slice none 0 0)]], 4, 33, true⟩), ((n + 2), some ⟨[[(.int .i64 f), (.int .i64 t), (W g), (.slice none 0 0)]], 4, 33, true⟩)]) (by kernel_rfl) get_here) (r_load1 rfl rfl rfl rfl rfl get_here rfl rfl) ?_
   refine PQ.pure (dst := (some 27)) (v := (.int .i64 0)) rfl rfl rfl noStore (none_ok _ _) rfl ?_
   refine PQ.pure (dst := (some 28)) (v := (.pointer (some ⟨(rk v), 0, some 0⟩))) rfl rfl rfl _ (seen_any (V := []) (D := [(n, some ⟨[[(.int .i64 f), (.int .i64 t), (W g), v]], 4, 33, true⟩), ((n + 1), some ⟨[[(.int .i64 0), (.int .i64 0), (.int .u32 0), (.slice none 0 0)]], 4, 33, true⟩), ((n + 2), some ⟨[[(.int .i64 f), (.int .i64 t), (W g), (.slice none 0 0)]], 4, 33, true⟩)]) (by kernel_rfl)) (r_iaP (c := cChk) (m := 0) rfl rfl rfl rfl rfl rfl hr rfl (by omega) (gt3 (by omega) hat) rfl) ?_
   refine PQ.pure (dst := (some 29)) (v := (.agg ⟨(cChk (cl.getD 0 dChk))⟩)) rfl rfl rfl _ (seen_any (V := []) (D := [(n, some ⟨[[(.int .i64 f), (.int .i64 t), (W g), v]], 4, 33, true⟩), ((n + 1), some ⟨[[(.int .i64 0), (.int .i64 0), (.int .u32 0), (.slice none 0 0)]], 4, 33, true⟩), ((n + 2), some ⟨[[(.int .i64 f), (.int .i64 t), (W g), (.slice none 0 0)]], 4, 33, true⟩)]) (by kernel_rfl)) (r_loadA (e := cChk (cl.getD 0 dChk)) rfl rfl rfl rfl (gt3 (by omega) hat) (mp_getA (by omega)) rfl rfl) ?_
   refine PQ.call (dst := (some 30)) (all := [(.agg ⟨(cChk (cl.getD 0 dChk))⟩)]) rfl rfl rfl rfl rfl rfl rfl rfl _ (seen_any (V := []) (D := [(n, some ⟨[[(.int .i64 f), (.int .i64 t), (W g), v]], 4, 33, true⟩), ((n + 1), some ⟨[[(.int .i64 0), (.int .i64 0), (.int .u32 0), (.slice none 0 0)]], 4, 33, true⟩), ((n + 2), some ⟨[[(.int .i64 f), (.int .i64 t), (W g), (.slice none 0 0)]], 4, 33, true⟩)]) (by kernel_rfl)) (CQ.imp (CQ.keys (chCut (hd.of (by omega) (kb3 (by omega))) (by omega) (cl.getD 0 dChk) (okChk.mono (sub_app (n' := n1) hd (kc3 (by omega))) (hcl _ (getD_mem (by omega)))))) ?_)
   rintro _ n2 _ ⟨hkn2, ⟨jan2, jbn2, hj1n2, hj2n2, hj3n2, hj4n2, hj5n2, rfl, rfl⟩⟩
   have hn2 := hkn2.1
   refine ⟨hn2, (kp2 (by first | exact wr_new (by omega) (by omega) | exact wr_old [0, 1] (by kernel_rfl) (by omega) (by omega) (fac (lo0 rfl) (fac (lo1 rfl (by omega)) fan))) (by first | exact wr_new (by omega) (by omega) | exact wr_old [0, 1] (by kernel_rfl) (by omega) (by omega) (fac (lo0 rfl) (fac (lo1 rfl (by omega)) fan)))), ?_⟩
   refine PQ.op (dst := (some 31)) (v := (.slice (some ⟨n2, 0, none⟩) 1 0)) (n1 := (n2 + 1)) (d1 := [(n2, some ⟨[(xAo21 cl jan2 jbn2)], 15, 50, true⟩)]) rfl rfl rfl noStore (none_ok _ _) (r_bs1 (cs := (xAo21 cl jan2 jbn2)) rfl rfl rfl rfl rfl rfl rfl (by decide) (by decide) (by kernel_rfl) (by simp only [List.all_cons, List.all_nil, Bool.and_true, Bool.and_eq_true]; exact ⟨rfl, rfl, rfl, rfl, rfl, rfl, rfl, rfl, rfl, rfl, rfl, rfl, rfl, (((hcl _ (getD_mem (l := cl) (d := dChk) (i := 0) (by omega))).2.2.1.cutR (min (cl.getD 0 dChk).gs.length 18) (by omega))).one, (((hcl _ (getD_mem (l := cl) (d := dChk) (i := 0) (by omega))).2.2.2.cutR (min (cl.getD 0 dChk).ds.length 18) (by omega))).one⟩)) (by omega) (kp1 (wr_new (by omega) (by omega))) ?_
   refine PQ.op (dst := (some 32)) (v := (.slice (some ⟨(n2 + 1), 0, none⟩) 1 0)) (n1 := (n2 + 2)) (d1 := [((n2 + 1), some ⟨[(xAo21 cl jan2 jbn2)], 15, 50, true⟩)]) rfl rfl rfl _ (seen_any (V := [(n2, some ⟨[(xAo21 cl jan2 jbn2)], 15, 50, true⟩), (jan2, some (oPrm (((cl.getD 0 dChk).ps.take (min (cl.getD 0 dChk).ps.length 18)).map cutPrm))), (jbn2, some (oCau (((cl.getD 0 dChk).cs.take (min (cl.getD 0 dChk).cs.length 18)).map cutCau)))]) (D := [(n, some ⟨[[(.int .i64 f), (.int .i64 t), (W g), v]], 4, 33, true⟩), ((n + 1), some ⟨[[(.int .i64 0), (.int .i64 0), (.int .u32 0), (.slice none 0 0)]], 4, 33, true⟩), ((n + 2), some ⟨[[(.int .i64 f), (.int .i64 t), (W g), (.slice none 0 0)]], 4, 33, true⟩)]) (by kernel_rfl)) (r_append0 rfl rfl rfl rfl rfl rfl rfl rfl rfl rfl (by decide) get_here (of_decide_eq_true (by kernel_rfl))) (by omega) (kp1 (wr_new (by omega) (by omega))) ?_
   refine PQ.pure (dst := (some 33)) (v := (.pointer (some ⟨(n + 2), 0, some 3⟩))) rfl rfl rfl noStore (none_ok _ _) rfl ?_
   refine PQ.op (dst := none) (v := (.tuple #[])) (n1 := (n2 + 2)) (d1 := [((n + 2), some ⟨[[(.int .i64 f), (.int .i64 t), (W g), (.slice (some ⟨(n2 + 1), 0, none⟩) 1 0)]], 4, 33, true⟩)]) rfl rfl rfl _ (seen_any (V := [((n2 + 1), some ⟨[(xAo21 cl jan2 jbn2)], 15, 50, true⟩), (n2, some ⟨[(xAo21 cl jan2 jbn2)], 15, 50, true⟩), (jan2, some (oPrm (((cl.getD 0 dChk).ps.take (min (cl.getD 0 dChk).ps.length 18)).map cutPrm))), (jbn2, some (oCau (((cl.getD 0 dChk).cs.take (min (cl.getD 0 dChk).cs.length 18)).map cutCau)))]) (D := [(n, some ⟨[[(.int .i64 f), (.int .i64 t), (W g), v]], 4, 33, true⟩), ((n + 1), some ⟨[[(.int .i64 0), (.int .i64 0), (.int .u32 0), (.slice none 0 0)]], 4, 33, true⟩), ((n + 2), some ⟨[[(.int .i64 f), (.int .i64 t), (W g), (.slice none 0 0)]], 4, 33, true⟩)]) (by kernel_rfl)) (r_store rfl rfl rfl rfl rfl rfl rfl (gt6 (by omega) get_here) rfl rfl (Nat.le_of_ble_eq_true rfl) rfl) (by omega) (kp1 (wr_tight (by kernel_rfl) (by omega))) ?_
   refine PQ.done (d := [((n + 2), some ⟨[[(.int .i64 f), (.int .i64 t), (W g), (.slice (some ⟨(n2 + 1), 0, none⟩) 1 0)]], 4, 33, true⟩), ((n2 + 1), some ⟨[(xAo21 cl jan2 jbn2)], 15, 50, true⟩), (n2, some ⟨[(xAo21 cl jan2 jbn2)], 15, 50, true⟩), (jan2, some (oPrm (((cl.getD 0 dChk).ps.take (min (cl.getD 0 dChk).ps.length 18)).map cutPrm))), (jbn2, some (oCau (((cl.getD 0 dChk).cs.take (min (cl.getD 0 dChk).cs.length 18)).map cutCau)))]) (by kernel_rfl) ?_
   intro _
   refine RA.weaken (D' := [((n + 2), some ⟨[[(.int .i64 f), (.int .i64 t), (W g), (.slice (some ⟨(n2 + 1), 0, none⟩) 1 0)]], 4, 33, true⟩), ((n2 + 1), some ⟨[(xAo21 cl jan2 jbn2)], 15, 50, true⟩), (n2, some ⟨[(xAo21 cl jan2 jbn2)], 15, 50, true⟩), (jan2, some (oPrm (((cl.getD 0 dChk).ps.take (min (cl.getD 0 dChk).ps.length 18)).map cutPrm))), (jbn2, some (oCau (((cl.getD 0 dChk).cs.take (min (cl.getD 0 dChk).cs.length 18)).map cutCau))), (n, some ⟨[[(.int .i64 f), (.int .i64 t), (W g), v]], 4, 33, true⟩), ((n + 1), some ⟨[[(.int .i64 0), (.int .i64 0), (.int .u32 0), (.slice none 0 0)]], 4, 33, true⟩)]) hd (Less.of (fac (mm (fun _ => get_here) (fun _ => get_here)) (fac (mm (fun _ => (get_there (by omega) get_here)) (fun _ => (get_there (by omega) get_here))) (fac (mm (fun _ => (gt2 (by omega) get_here)) (fun _ => (gt2 (by omega) get_here))) (fac (mm (fun _ => (gt3 (by omega) get_here)) (fun _ => (gt3 (by omega) get_here))) (fac (mm (fun _ => (gt4 (by omega) get_here)) (fun _ => (gt4 (by omega) get_here))) (fac (mm (fun _ => (gt5 (by omega) get_here)) (fun _ => (gt5 (by omega) get_here))) (fac (mm (fun _ => (gt6 (by omega) get_here)) (fun _ => (gt6 (by omega) get_here))) fan))))))) (gone_of (by simp only [goneP, memP, List.cons_append, List.nil_append, true_or, or_true, true_and, and_true, or_false] <;> omega))) ?_
   refine RA.region env_ok ?_
   refine OA.p (some 21) (.int .i64 0) rfl rfl rfl rfl ?_
   refine OA.p (some 22) (.int .i64 1) rfl rfl rfl (r_bin rfl rfl rfl (b_add (i64_eq (by omega)))) ?_
   refine OA.p (some 4) (.int .i64 1) rfl rfl rfl rfl ?_
   refine OA.nil ?_
   refine ⟨(29 - 1), by omega, [(n, some ⟨[[(.int .i64 f), (.int .i64 t), (W g), v]], 4, 33, true⟩), ((n + 1), some ⟨[[(.int .i64 0), (.int .i64 0), (.int .u32 0), (.slice none 0 0)]], 4, 33, true⟩), ((n + 2), some ⟨[[(.int .i64 f), (.int .i64 t), (W g), (.slice (some ⟨(n2 + 1), 0, none⟩) 1 0)]], 4, 33, true⟩), ((n2 + 1), some ⟨[(xAo21 cl jan2 jbn2)], 15, 50, true⟩)], (Less.of (fac (mm (fun _ => get_here) (fun _ => (gt5 (by omega) get_here))) (fac (mm (fun _ => (get_there (by omega) get_here)) (fun _ => (gt6 (by omega) get_here))) (fac (mm (fun _ => (gt2 (by omega) get_here)) (fun _ => get_here)) (fac (mm (fun _ => (gt3 (by omega) get_here)) (fun _ => (get_there (by omega) get_here))) fan)))) (gone_of (by simp only [goneP, memP, List.cons_append, List.nil_append, true_or, or_true, true_and, and_true, or_false] <;> omega))), .inr (⟨1, (n2 + 1), [(xAo21 cl jan2 jbn2)], rfl, by omega, ⟨rfl, rfl, rfl, rfl, trivial⟩, rfl, (kb4 (by omega)), ⟨by omega, by omega, by omega, by rfl⟩⟩)⟩
  ·
   refine OA.p (some 16) (.bool false) rfl rfl rfl (Eq.trans (r_bin rfl rfl rfl (b_lss rfl)) (dF hc1)) ?_
   refine OA.p (some 17) (.bool false) rfl rfl rfl rfl ?_
   refine OA.off (dst := (some 18)) rfl rfl rfl ?_
   refine OA.off (dst := (some 19)) rfl rfl rfl ?_
   refine OA.p (some 20) (.bool false) rfl rfl rfl rfl ?_
   refine OA.nil ?_
   intro _
   refine RA.condF rfl ?_
   refine RA.exit env_ok ?_
   intro _
   refine RA.seq hd ?_
   refine RA.region env_ok ?_
   refine OA.p (some 34) (.agg ⟨[(.int .i64 f), (.int .i64 t), (W g), (.slice none 0 0)]⟩) rfl rfl rfl (r_loadA rfl rfl rfl rfl (gt2 (by omega) get_here) rfl rfl rfl) ?_
   refine OA.op1 (dst := none) (v := (.tuple #[])) (n1 := n1) (w := ((n + 1), some ⟨[[(.int .i64 f), (.int .i64 t), (W g), (.slice none 0 0)]], 4, 33, true⟩)) rfl rfl rfl (r_store rfl rfl rfl rfl rfl rfl rfl (get_there (by omega) get_here) rfl rfl (Nat.le_of_ble_eq_true rfl) rfl) (by omega) ?_
   refine OA.nil ?_
   intro _
   refine RA.ret env_ok ?_
   refine ⟨.inr rfl, [(.agg ⟨[(.int .i64 f), (.int .i64 t), (W g), (.slice none 0 0)]⟩)], (resL_cons (res_cellA rfl rfl rfl get_here rfl rfl rfl) resL_nil), [], (Less.of (fun p hp => by simp at hp) (gone_of (by simp only [goneP, memP, List.cons_append, List.nil_append, true_or, or_true, true_and, and_true, or_false] <;> omega))), ⟨none, 0, rfl, rfl⟩⟩
 ·
  rw [Has.eq hHn1]
  have hKn1_0 : n < n1 := hKn1 _ (by simp only [keys, List.map_cons, List.map_nil, List.mem_cons, true_or, or_true])
  have hKn1_1 : (n + 1) < n1 := hKn1 _ (by simp only [keys, List.map_cons, List.map_nil, List.mem_cons, true_or, or_true])
  have hKn1_2 : (n + 2) < n1 := hKn1 _ (by simp only [keys, List.map_cons, List.map_nil, List.mem_cons, true_or, or_true])
  have hKn1_3 : j < n1 := hKn1 _ (by simp only [keys, List.map_cons, List.map_nil, List.mem_cons, true_or, or_true])
  clear hKn1
  obtain ⟨hi1, hi2, hj1, hls⟩ := hIn1
  refine RA.seq hd ?_
  refine RA.seq hd ?_
  refine RA.region env_ok ?_
  refine OA.p (some 12) (.int .i64 ((i : Nat) : Int)) rfl rfl rfl rfl ?_
  refine OA.p (some 13) (Pt n 0 3) rfl rfl rfl rfl ?_
  refine OA.p (some 14) v rfl rfl rfl (r_load1 rfl rfl rfl rfl rfl get_here rfl rfl) ?_
  refine OA.p (some 15) (.int .i64 ((cl.length : Nat) : Int)) rfl rfl rfl (r_lenP (c := cChk) rfl rfl rfl rfl rfl rfl hr rfl) ?_
  by_cases hc2 : ((i : Nat) : Int) < ((cl.length : Nat) : Int)
  ·
   obtain ⟨rest, hat⟩ := hr.get (m := i) (by omega)
   have lathat := hd.lt hat
   refine OA.p (some 16) (.bool true) rfl rfl rfl (Eq.trans (r_bin rfl rfl rfl (b_lss rfl)) (dT hc2)) ?_
   refine OA.p (some 17) (.bool true) rfl rfl rfl rfl ?_
   refine OA.p (some 18) (.int .i64 ((i : Nat) : Int)) rfl rfl rfl rfl ?_
   by_cases hc3 : ((i : Nat) : Int) < 22
   ·
    refine OA.p (some 19) (.bool true) rfl rfl rfl (Eq.trans (r_bin rfl rfl rfl (b_lss rfl)) (dT hc3)) ?_
    refine OA.p (some 20) (.bool true) rfl rfl rfl rfl ?_
    refine OA.nil ?_
    intro _
    refine RA.condT rfl ?_
    refine RA.skip env_ok ?_
    intro _
    refine RA.seq hd ?_
    refine RA.block ?_
    refine RA.par (md := [some [], some [(n + 2)], some [], some [n], some [], none, none, none, some [], none, some [], none]) env_ok (hd.of (by omega) (kb4 (by omega))) (by kernel_rfl) ?_
    refine PQ.pure (dst := (some 23)) (v := (.pointer (some ⟨(n + 2), 0, some 3⟩))) rfl rfl rfl noStore (none_ok _ _) rfl ?_
    refine PQ.pure (dst := (some 24)) (v := (.slice (some ⟨j, 0, none⟩) i 0)) rfl rfl rfl (app [((n + 2), some ⟨[[(.int .i64 f), (.int .i64 t), (W g), (.slice (some ⟨j, 0, none⟩) i 0)]], 4, 33, true⟩)] noStore) (seen_one (V := []) (D := [(n, some ⟨[[(.int .i64 f), (.int .i64 t), (W g), v]], 4, 33, true⟩), ((n + 1), some ⟨[[(.int .i64 0), (.int .i64 0), (.int .u32 0), (.slice none 0 0)]], 4, 33, true⟩), ((n + 2), some ⟨[[(.int .i64 f), (.int .i64 t), (W g), (.slice (some ⟨j, 0, none⟩) i 0)]], 4, 33, true⟩), (j, some ⟨ls, 15, 50, true⟩)]) (by kernel_rfl) (gt2 (by omega) get_here)) (r_load1 rfl rfl rfl rfl rfl get_here rfl rfl) ?_
    refine PQ.pure (dst := (some 25)) (v := (Pt n 0 3)) rfl rfl rfl noStore (none_ok _ _) rfl ?_
    refine PQ.pure (dst := (some 26)) (v := v) rfl rfl rfl (app [(n, some ⟨[[(.int .i64 f), (.int .i64 t), (W g), v]], 4, 33, true⟩)] noStore) (seen_one (V := []) (D := [(n, some ⟨[[(.int .i64 f), (.int .i64 t), (W g), v]], 4, 33, true⟩), ((n + 1), some ⟨[[(.int .i64 0), (.int .i64 0), (.int .u32 0), (.slice none 0 0)]], 4, 33, true⟩), ((n + 2), some ⟨[[(.int .i64 f), (.int .i64 t), (W g), (.slice (some ⟨j, 0, none⟩) i 0)]], 4, 33, true⟩), (j, some ⟨ls, 15, 50, true⟩)]) (by kernel_rfl) get_here) (r_load1 rfl rfl rfl rfl rfl get_here rfl rfl) ?_
    refine PQ.pure (dst := (some 27)) (v := (.int .i64 ((i : Nat) : Int))) rfl rfl rfl noStore (none_ok _ _) rfl ?_
    refine PQ.pure (dst := (some 28)) (v := (.pointer (some ⟨(rk v), i, some 0⟩))) rfl rfl rfl _ (seen_any (V := []) (D := [(n, some ⟨[[(.int .i64 f), (.int .i64 t), (W g), v]], 4, 33, true⟩), ((n + 1), some ⟨[[(.int .i64 0), (.int .i64 0), (.int .u32 0), (.slice none 0 0)]], 4, 33, true⟩), ((n + 2), some ⟨[[(.int .i64 f), (.int .i64 t), (W g), (.slice (some ⟨j, 0, none⟩) i 0)]], 4, 33, true⟩), (j, some ⟨ls, 15, 50, true⟩)]) (by kernel_rfl)) (r_iaP (c := cChk) (m := i) rfl rfl rfl rfl rfl rfl hr rfl (by omega) (gt4 (by omega) hat) rfl) ?_
    refine PQ.pure (dst := (some 29)) (v := (.agg ⟨(cChk (cl.getD i dChk))⟩)) rfl rfl rfl _ (seen_any (V := []) (D := [(n, some ⟨[[(.int .i64 f), (.int .i64 t), (W g), v]], 4, 33, true⟩), ((n + 1), some ⟨[[(.int .i64 0), (.int .i64 0), (.int .u32 0), (.slice none 0 0)]], 4, 33, true⟩), ((n + 2), some ⟨[[(.int .i64 f), (.int .i64 t), (W g), (.slice (some ⟨j, 0, none⟩) i 0)]], 4, 33, true⟩), (j, some ⟨ls, 15, 50, true⟩)]) (by kernel_rfl)) (r_loadA (e := cChk (cl.getD i dChk)) rfl rfl rfl rfl (gt4 (by omega) hat) (mp_getA (by omega)) rfl rfl) ?_
    refine PQ.call (dst := (some 30)) (all := [(.agg ⟨(cChk (cl.getD i dChk))⟩)]) rfl rfl rfl rfl rfl rfl rfl rfl _ (seen_any (V := []) (D := [(n, some ⟨[[(.int .i64 f), (.int .i64 t), (W g), v]], 4, 33, true⟩), ((n + 1), some ⟨[[(.int .i64 0), (.int .i64 0), (.int .u32 0), (.slice none 0 0)]], 4, 33, true⟩), ((n + 2), some ⟨[[(.int .i64 f), (.int .i64 t), (W g), (.slice (some ⟨j, 0, none⟩) i 0)]], 4, 33, true⟩), (j, some ⟨ls, 15, 50, true⟩)]) (by kernel_rfl)) (CQ.imp (CQ.keys (chCut (hd.of (by omega) (kb4 (by omega))) (by omega) (cl.getD i dChk) (okChk.mono (sub_app (n' := n1) hd (kc4 (by omega))) (hcl _ (getD_mem (by omega)))))) ?_)
    rintro _ n3 _ ⟨hkn3, ⟨jan3, jbn3, hj1n3, hj2n3, hj3n3, hj4n3, hj5n3, rfl, rfl⟩⟩
    have hn3 := hkn3.1
    refine ⟨hn3, (kp2 (by first | exact wr_new (by omega) (by omega) | exact wr_old [0, 1] (by kernel_rfl) (by omega) (by omega) (fac (lo0 rfl) (fac (lo1 rfl (by omega)) fan))) (by first | exact wr_new (by omega) (by omega) | exact wr_old [0, 1] (by kernel_rfl) (by omega) (by omega) (fac (lo0 rfl) (fac (lo1 rfl (by omega)) fan)))), ?_⟩
    refine PQ.op (dst := (some 31)) (v := (.slice (some ⟨n3, 0, none⟩) 1 0)) (n1 := (n3 + 1)) (d1 := [(n3, some ⟨[(xAo22 cl i jan3 jbn3)], 15, 50, true⟩)]) rfl rfl rfl noStore (none_ok _ _) (r_bs1 (cs := (xAo22 cl i jan3 jbn3)) rfl rfl rfl rfl rfl rfl rfl (by decide) (by decide) (by kernel_rfl) (by simp only [List.all_cons, List.all_nil, Bool.and_true, Bool.and_eq_true]; exact ⟨rfl, rfl, rfl, rfl, rfl, rfl, rfl, rfl, rfl, rfl, rfl, rfl, rfl, (((hcl _ (getD_mem (l := cl) (d := dChk) (i := i) (by omega))).2.2.1.cutR (min (cl.getD i dChk).gs.length 18) (by omega))).one, (((hcl _ (getD_mem (l := cl) (d := dChk) (i := i) (by omega))).2.2.2.cutR (min (cl.getD i dChk).ds.length 18) (by omega))).one⟩)) (by omega) (kp1 (wr_new (by omega) (by omega))) ?_
    refine PQ.op (dst := (some 32)) (v := (.slice (some ⟨(n3 + 1), 0, none⟩) (i + 1) 0)) (n1 := (n3 + 2)) (d1 := [((n3 + 1), some ⟨(ls ++ [(xAo22 cl i jan3 jbn3)]), 15, 50, true⟩), (j, none)]) rfl rfl rfl _ (seen_any (V := [(n3, some ⟨[(xAo22 cl i jan3 jbn3)], 15, 50, true⟩), (jan3, some (oPrm (((cl.getD i dChk).ps.take (min (cl.getD i dChk).ps.length 18)).map cutPrm))), (jbn3, some (oCau (((cl.getD i dChk).cs.take (min (cl.getD i dChk).cs.length 18)).map cutCau)))]) (D := [(n, some ⟨[[(.int .i64 f), (.int .i64 t), (W g), v]], 4, 33, true⟩), ((n + 1), some ⟨[[(.int .i64 0), (.int .i64 0), (.int .u32 0), (.slice none 0 0)]], 4, 33, true⟩), ((n + 2), some ⟨[[(.int .i64 f), (.int .i64 t), (W g), (.slice (some ⟨j, 0, none⟩) i 0)]], 4, 33, true⟩), (j, some ⟨ls, 15, 50, true⟩)]) (by kernel_rfl)) (r_append rfl rfl rfl rfl rfl rfl rfl rfl rfl rfl (by decide) (gt6 (by omega) get_here) get_here (by first | exact hls | (rw [hls]; done) | (rw [List.length_map]; exact hls)) (by omega) (of_decide_eq_true (by kernel_rfl)) rfl) (by omega) (kp2 (wr_new (by omega) (by omega)) (wr_tight (by kernel_rfl) (by omega))) ?_
    refine PQ.pure (dst := (some 33)) (v := (.pointer (some ⟨(n + 2), 0, some 3⟩))) rfl rfl rfl noStore (none_ok _ _) rfl ?_
    refine PQ.op (dst := none) (v := (.tuple #[])) (n1 := (n3 + 2)) (d1 := [((n + 2), some ⟨[[(.int .i64 f), (.int .i64 t), (W g), (.slice (some ⟨(n3 + 1), 0, none⟩) (i + 1) 0)]], 4, 33, true⟩)]) rfl rfl rfl _ (seen_any (V := [((n3 + 1), some ⟨(ls ++ [(xAo22 cl i jan3 jbn3)]), 15, 50, true⟩), (j, none), (n3, some ⟨[(xAo22 cl i jan3 jbn3)], 15, 50, true⟩), (jan3, some (oPrm (((cl.getD i dChk).ps.take (min (cl.getD i dChk).ps.length 18)).map cutPrm))), (jbn3, some (oCau (((cl.getD i dChk).cs.take (min (cl.getD i dChk).cs.length 18)).map cutCau)))]) (D := [(n, some ⟨[[(.int .i64 f), (.int .i64 t), (W g), v]], 4, 33, true⟩), ((n + 1), some ⟨[[(.int .i64 0), (.int .i64 0), (.int .u32 0), (.slice none 0 0)]], 4, 33, true⟩), ((n + 2), some ⟨[[(.int .i64 f), (.int .i64 t), (W g), (.slice (some ⟨j, 0, none⟩) i 0)]], 4, 33, true⟩), (j, some ⟨ls, 15, 50, true⟩)]) (by kernel_rfl)) (r_store rfl rfl rfl rfl rfl rfl rfl (gt7 (by omega) get_here) rfl rfl (Nat.le_of_ble_eq_true rfl) rfl) (by omega) (kp1 (wr_tight (by kernel_rfl) (by omega))) ?_
    refine PQ.done (d := [((n + 2), some ⟨[[(.int .i64 f), (.int .i64 t), (W g), (.slice (some ⟨(n3 + 1), 0, none⟩) (i + 1) 0)]], 4, 33, true⟩), ((n3 + 1), some ⟨(ls ++ [(xAo22 cl i jan3 jbn3)]), 15, 50, true⟩), (j, none), (n3, some ⟨[(xAo22 cl i jan3 jbn3)], 15, 50, true⟩), (jan3, some (oPrm (((cl.getD i dChk).ps.take (min (cl.getD i dChk).ps.length 18)).map cutPrm))), (jbn3, some (oCau (((cl.getD i dChk).cs.take (min (cl.getD i dChk).cs.length 18)).map cutCau)))]) (by kernel_rfl) ?_
    intro _
    refine RA.weaken (D' := [((n + 2), some ⟨[[(.int .i64 f), (.int .i64 t), (W g), (.slice (some ⟨(n3 + 1), 0, none⟩) (i + 1) 0)]], 4, 33, true⟩), ((n3 + 1), some ⟨(ls ++ [(xAo22 cl i jan3 jbn3)]), 15, 50, true⟩), (j, none), (n3, some ⟨[(xAo22 cl i jan3 jbn3)], 15, 50, true⟩), (jan3, some (oPrm (((cl.getD i dChk).ps.take (min (cl.getD i dChk).ps.length 18)).map cutPrm))), (jbn3, some (oCau (((cl.getD i dChk).cs.take (min (cl.getD i dChk).cs.length 18)).map cutCau))), (n, some ⟨[[(.int .i64 f), (.int .i64 t), (W g), v]], 4, 33, true⟩), ((n + 1), some ⟨[[(.int .i64 0), (.int .i64 0), (.int .u32 0), (.slice none 0 0)]], 4, 33, true⟩)]) hd (Less.of (fac (mm (fun _ => get_here) (fun _ => get_here)) (fac (mm (fun _ => (get_there (by omega) get_here)) (fun _ => (get_there (by omega) get_here))) (fac (mm (fun _ => (gt2 (by omega) get_here)) (fun _ => (gt2 (by omega) get_here))) (fac (mm (fun _ => (gt3 (by omega) get_here)) (fun _ => (gt3 (by omega) get_here))) (fac (mm (fun _ => (gt4 (by omega) get_here)) (fun _ => (gt4 (by omega) get_here))) (fac (mm (fun _ => (gt5 (by omega) get_here)) (fun _ => (gt5 (by omega) get_here))) (fac (mm (fun _ => (gt6 (by omega) get_here)) (fun _ => (gt6 (by omega) get_here))) (fac (mm (fun _ => (gt7 (by omega) get_here)) (fun _ => (gt7 (by omega) get_here))) fan)))))))) (gone_of (by simp only [goneP, memP, List.cons_append, List.nil_append, true_or, or_true, true_and, and_true, or_false] <;> omega))) ?_
    refine RA.region env_ok ?_
    refine OA.p (some 21) (.int .i64 ((i : Nat) : Int)) rfl rfl rfl rfl ?_
    refine OA.p (some 22) (.int .i64 (((i + 1) : Nat) : Int)) rfl rfl rfl (r_bin rfl rfl rfl (b_add (i64_eq (by omega)))) ?_
    refine OA.p (some 4) (.int .i64 (((i + 1) : Nat) : Int)) rfl rfl rfl rfl ?_
    refine OA.nil ?_
    refine ⟨(29 - (i + 1)), by omega, [(n, some ⟨[[(.int .i64 f), (.int .i64 t), (W g), v]], 4, 33, true⟩), ((n + 1), some ⟨[[(.int .i64 0), (.int .i64 0), (.int .u32 0), (.slice none 0 0)]], 4, 33, true⟩), ((n + 2), some ⟨[[(.int .i64 f), (.int .i64 t), (W g), (.slice (some ⟨(n3 + 1), 0, none⟩) (i + 1) 0)]], 4, 33, true⟩), ((n3 + 1), some ⟨(ls ++ [(xAo22 cl i jan3 jbn3)]), 15, 50, true⟩)], (Less.of (fac (mm (fun _ => get_here) (fun _ => (gt6 (by omega) get_here))) (fac (mm (fun _ => (get_there (by omega) get_here)) (fun _ => (gt7 (by omega) get_here))) (fac (mm (fun _ => (gt2 (by omega) get_here)) (fun _ => get_here)) (fac (mm (fun _ => (gt3 (by omega) get_here)) (fun _ => (get_there (by omega) get_here))) fan)))) (gone_of (by simp only [goneP, memP, List.cons_append, List.nil_append, true_or, or_true, true_and, and_true, or_false] <;> omega))), .inr (⟨(i + 1), (n3 + 1), (ls ++ [(xAo22 cl i jan3 jbn3)]), rfl, by omega, ⟨rfl, rfl, rfl, rfl, trivial⟩, rfl, (kb4 (by omega)), ⟨by omega, by omega, by omega, (by rw [List.length_append, List.length_singleton, hls])⟩⟩)⟩
   ·
    refine OA.p (some 19) (.bool false) rfl rfl rfl (Eq.trans (r_bin rfl rfl rfl (b_lss rfl)) (dF hc3)) ?_
    refine OA.p (some 20) (.bool false) rfl rfl rfl rfl ?_
    refine OA.nil ?_
    intro _
    refine RA.condF rfl ?_
    refine RA.exit env_ok ?_
    intro _
    refine RA.seq hd ?_
    refine RA.region env_ok ?_
    refine OA.p (some 34) (.agg ⟨[(.int .i64 f), (.int .i64 t), (W g), (.slice (some ⟨j, 0, none⟩) i 0)]⟩) rfl rfl rfl (r_loadA rfl rfl rfl rfl (gt2 (by omega) get_here) rfl rfl rfl) ?_
    refine OA.op1 (dst := none) (v := (.tuple #[])) (n1 := n1) (w := ((n + 1), some ⟨[[(.int .i64 f), (.int .i64 t), (W g), (.slice (some ⟨j, 0, none⟩) i 0)]], 4, 33, true⟩)) rfl rfl rfl (r_store rfl rfl rfl rfl rfl rfl rfl (get_there (by omega) get_here) rfl rfl (Nat.le_of_ble_eq_true rfl) rfl) (by omega) ?_
    refine OA.nil ?_
    intro _
    refine RA.ret env_ok ?_
    refine ⟨.inr rfl, [(.agg ⟨[(.int .i64 f), (.int .i64 t), (W g), (.slice (some ⟨j, 0, none⟩) i 0)]⟩)], (resL_cons (res_cellA rfl rfl rfl get_here rfl rfl rfl) resL_nil), [], (Less.of (fun p hp => by simp at hp) (gone_of (by simp only [goneP, memP, List.cons_append, List.nil_append, true_or, or_true, true_and, and_true, or_false] <;> omega))), ⟨some ⟨j, 0, none⟩, i, rfl, rfl⟩⟩
  ·
   refine OA.p (some 16) (.bool false) rfl rfl rfl (Eq.trans (r_bin rfl rfl rfl (b_lss rfl)) (dF hc2)) ?_
   refine OA.p (some 17) (.bool false) rfl rfl rfl rfl ?_
   refine OA.off (dst := (some 18)) rfl rfl rfl ?_
   refine OA.off (dst := (some 19)) rfl rfl rfl ?_
   refine OA.p (some 20) (.bool false) rfl rfl rfl rfl ?_
   refine OA.nil ?_
   intro _
   refine RA.condF rfl ?_
   refine RA.exit env_ok ?_
   intro _
   refine RA.seq hd ?_
   refine RA.region env_ok ?_
   refine OA.p (some 34) (.agg ⟨[(.int .i64 f), (.int .i64 t), (W g), (.slice (some ⟨j, 0, none⟩) i 0)]⟩) rfl rfl rfl (r_loadA rfl rfl rfl rfl (gt2 (by omega) get_here) rfl rfl rfl) ?_
   refine OA.op1 (dst := none) (v := (.tuple #[])) (n1 := n1) (w := ((n + 1), some ⟨[[(.int .i64 f), (.int .i64 t), (W g), (.slice (some ⟨j, 0, none⟩) i 0)]], 4, 33, true⟩)) rfl rfl rfl (r_store rfl rfl rfl rfl rfl rfl rfl (get_there (by omega) get_here) rfl rfl (Nat.le_of_ble_eq_true rfl) rfl) (by omega) ?_
   refine OA.nil ?_
   intro _
   refine RA.ret env_ok ?_
   refine ⟨.inr rfl, [(.agg ⟨[(.int .i64 f), (.int .i64 t), (W g), (.slice (some ⟨j, 0, none⟩) i 0)]⟩)], (resL_cons (res_cellA rfl rfl rfl get_here rfl rfl rfl) resL_nil), [], (Less.of (fun p hp => by simp at hp) (gone_of (by simp only [goneP, memP, List.cons_append, List.nil_append, true_or, or_true, true_and, and_true, or_false] <;> omega))), ⟨some ⟨j, 0, none⟩, i, rfl, rfl⟩⟩
end Go.Proofs.Ytnjknabighmedaa.Vt
