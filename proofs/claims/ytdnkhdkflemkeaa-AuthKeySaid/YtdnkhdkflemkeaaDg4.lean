/- Dg4: walks through functions of the program, by the calculus; written by a program of this workplace. -/
import Derived.Test.YtdnkhdkflemkeaaDg3
import Derived.Test.YtdnkhdkflemkeaaVm5
namespace Go.Proofs.Ytdnkhdkflemkeaa.Vt
open Go Go.Proofs Go.Proofs.YtdnkhdkflemkeaaV
set_option maxRecDepth 100000
set_option linter.unusedVariables false
set_option linter.unusedSimpArgs false
def be4 (x : BitVec 32) : List UInt8 := [UInt8.ofNat (x >>> 24).toNat, UInt8.ofNat (x >>> 16).toNat, UInt8.ofNat (x >>> 8).toNat, UInt8.ofNat x.toNat]
def h0 : H5 := ⟨1732584193#32, 4023233417#32, 2562383102#32, 271733878#32, 3285377520#32⟩
def hs (t : ByteArray) : Nat → H5
  | 0 => h0
  | k + 1 => blk (hs t k) (t.extract (64 * k) (64 * k + 64))
def be8 (m : Nat) : List UInt8 := be4 (BitVec.ofNat 32 (m / 4294967296)) ++ be4 (BitVec.ofNat 32 m)
def padded (s : ByteArray) : ByteArray := s ++ ⟨#[128]⟩ ++ bstr (List.replicate ((119 - s.size % 64) % 64) 0) ++ bstr (be8 (s.size * 8))
def out5 (h : H5) : ByteArray := bstr (be4 h.a ++ be4 h.b ++ be4 h.c ++ be4 h.d ++ be4 h.e)
def sha (s : ByteArray) : ByteArray := out5 (hs (padded s) ((padded s).size / 64))
theorem be4_len (x : BitVec 32) : (be4 x).length = 4 := rfl
theorem be8_len (m : Nat) : (be8 m).length = 8 := rfl
theorem padded_size (s : ByteArray) : (padded s).size = s.size + 1 + (119 - s.size % 64) % 64 + 8 := by
  unfold padded
  simp only [ByteArray.size_append, bstr_size, List.length_replicate, be8_len, size_lit, List.size_toArray, List.length_cons, List.length_nil]
theorem padded_mod (s : ByteArray) : (padded s).size % 64 = 0 := by rw [padded_size]; omega
theorem ext_ext2 (s : ByteArray) (a b : Nat) (h : a + b ≤ s.size) : (s.extract a s.size).extract 0 b = s.extract a (a + b) := by
  apply L_ext
  rw [L_extract, L_extract, L_extract, List.drop_zero, List.take_take]
  congr 1
  omega
theorem out5_eq (h : H5) : (⟨#[]⟩ : ByteArray) ++ bstr (be4 h.a) ++ bstr (be4 h.b) ++ bstr (be4 h.c) ++ bstr (be4 h.d) ++ bstr (be4 h.e) = out5 h := by
  apply L_ext
  simp only [L_append, L_bstr, out5]
  rfl
theorem bstr_app (l m : List UInt8) : bstr l ++ bstr m = bstr (l ++ m) := by
  apply L_ext; rw [L_append, L_bstr, L_bstr, L_bstr]
theorem ext_full (s : ByteArray) {n : Nat} (h : s.size = n) : s.extract 0 n = s := by
  apply L_ext; rw [L_extract, List.drop_zero, List.take_of_length_le (by rw [L_len]; omega)]
theorem s37 {σ : Store}    : PS Try.prog noDen 37 [] σ (.agg ⟨[W h0.a, W h0.b, W h0.c, W h0.d, W h0.e]⟩) := by
 refine PS.body (E := env) env_ok rfl rfl (by show _ ≤ _; exact of_decide_eq_true (by kernel_rfl)) (fun n hd => ?_)
 refine RA.seq hd ?_
 refine RA.region env_ok ?_
 refine OA.op1 (dst := (some 0)) (v := (.pointer (some ⟨n, 0, some 0⟩))) (n1 := (n + 1)) (w := (n, some ⟨[[(.int .u32 0), (.int .u32 0), (.int .u32 0), (.int .u32 0), (.int .u32 0)]], 5, 60, true⟩)) rfl rfl rfl rfl (by omega) ?_
 refine OA.nil ?_
 intro _
 refine RA.seq hd ?_
 refine RA.region env_ok ?_
 refine OA.p (some 1) (.agg ⟨[(.int .u32 1732584193), (.int .u32 4023233417), (.int .u32 2562383102), (.int .u32 271733878), (.int .u32 3285377520)]⟩) rfl rfl rfl (by kernel_rfl) ?_
 refine OA.op1 (dst := none) (v := (.tuple #[])) (n1 := (n + 1)) (w := (n, some ⟨[[(.int .u32 1732584193), (.int .u32 4023233417), (.int .u32 2562383102), (.int .u32 271733878), (.int .u32 3285377520)]], 5, 60, true⟩)) rfl rfl rfl (r_store rfl rfl rfl rfl rfl rfl rfl get_here rfl rfl (Nat.le_of_ble_eq_true rfl) rfl) (by omega) ?_
 refine OA.nil ?_
 intro _
 refine RA.ret env_ok ?_
 refine ⟨.inr rfl, [(.agg ⟨[(.int .u32 1732584193), (.int .u32 4023233417), (.int .u32 2562383102), (.int .u32 271733878), (.int .u32 3285377520)]⟩)], (resL_cons (res_cellA rfl rfl rfl get_here rfl rfl rfl) resL_nil), rfl, (kc2 (by omega))⟩

theorem s39 {σ : Store} (h : H5) (s : ByteArray) (hs : s.size = 64)   : PS Try.prog noDen 39 [(.agg ⟨[(W h.a), (W h.b), (W h.c), (W h.d), (W h.e)]⟩), (.string s)] σ (.agg ⟨[W (blk h s).a, W (blk h s).b, W (blk h s).c, W (blk h s).d, W (blk h s).e]⟩) := by
 refine PS.body (E := env) env_ok rfl rfl (by show _ ≤ _; exact of_decide_eq_true (by kernel_rfl)) (fun n hd => ?_)
 refine RA.seq hd ?_
 refine RA.region env_ok ?_
 refine OA.op1 (dst := (some 2)) (v := (.pointer (some ⟨n, 0, some 0⟩))) (n1 := (n + 1)) (w := (n, some ⟨[[(W h.a), (W h.b), (W h.c), (W h.d), (W h.e)]], 5, 60, true⟩)) rfl rfl rfl rfl (by omega) ?_
 refine OA.op1 (dst := (some 4)) (v := (.pointer (some ⟨(n + 1), 0, some 0⟩))) (n1 := (n + 2)) (w := ((n + 1), some ⟨[[(.int .u32 0), (.int .u32 0), (.int .u32 0), (.int .u32 0), (.int .u32 0)]], 5, 60, true⟩)) rfl rfl rfl rfl (by omega) ?_
 refine OA.nil ?_
 intro _
 refine RA.seq hd ?_
 refine RA.par (md := [some [], some [], some [n], some [], some [], none, none]) env_ok (hd.of (by omega) (kb2 (by omega))) (by kernel_rfl) ?_
 refine PQ.pure (dst := (some 12)) (v := (.string s)) rfl rfl rfl noStore (none_ok _ _) rfl ?_
 refine PQ.callP (dst := (some 13)) (all := [(.string s)]) (v := (.agg ⟨(((List.range 80).map (wd s)).map W)⟩)) noStore (dom_none _) rfl rfl rfl rfl rfl rfl rfl rfl (none_ok _ _) (s55 s hs) ?_
 intro n1 hn1
 refine PQ.pure (dst := (some 14)) (v := (.agg ⟨[(W h.a), (W h.b), (W h.c), (W h.d), (W h.e)]⟩)) rfl rfl rfl (app [(n, some ⟨[[(W h.a), (W h.b), (W h.c), (W h.d), (W h.e)]], 5, 60, true⟩)] noStore) (seen_one (V := []) (D := [((n + 1), some ⟨[[(.int .u32 0), (.int .u32 0), (.int .u32 0), (.int .u32 0), (.int .u32 0)]], 5, 60, true⟩), (n, some ⟨[[(W h.a), (W h.b), (W h.c), (W h.d), (W h.e)]], 5, 60, true⟩)]) (by kernel_rfl) (get_there (by omega) get_here)) (r_loadA rfl rfl rfl rfl get_here rfl rfl rfl) ?_
 refine PQ.op (dst := (some 5)) (v := (.pointer (some ⟨n1, 0, some 0⟩))) (n1 := (n1 + 1)) (d1 := [(n1, some ⟨[((List.replicate 80 0#32).map W)], 80, 79, true⟩)]) rfl rfl rfl noStore (none_ok _ _) (by kernel_rfl) (by omega) (kp1 (wr_new (by omega) (by omega))) ?_
 refine PQ.op (dst := (some 6)) (v := (.pointer (some ⟨(n1 + 1), 0, some 0⟩))) (n1 := (n1 + 2)) (d1 := [((n1 + 1), some ⟨[[(.int .u32 0), (.int .u32 0), (.int .u32 0), (.int .u32 0), (.int .u32 0)]], 5, 60, true⟩)]) rfl rfl rfl noStore (none_ok _ _) rfl (by omega) (kp1 (wr_new (by omega) (by omega))) ?_
 refine PQ.op (dst := none) (v := (.tuple #[])) (n1 := (n1 + 2)) (d1 := [(n1, some ⟨[(((List.range 80).map (wd s)).map W)], 80, 79, true⟩)]) rfl rfl rfl _ (seen_any (V := [((n1 + 1), some ⟨[[(.int .u32 0), (.int .u32 0), (.int .u32 0), (.int .u32 0), (.int .u32 0)]], 5, 60, true⟩), (n1, some ⟨[((List.replicate 80 0#32).map W)], 80, 79, true⟩)]) (D := [((n + 1), some ⟨[[(.int .u32 0), (.int .u32 0), (.int .u32 0), (.int .u32 0), (.int .u32 0)]], 5, 60, true⟩), (n, some ⟨[[(W h.a), (W h.b), (W h.c), (W h.d), (W h.e)]], 5, 60, true⟩)]) (by kernel_rfl)) (r_storeAll rfl rfl rfl rfl (by simp [List.length_map, List.length_range]; rfl) (mapW_one _) (get_there (by omega) get_here) rfl rfl (by simp [List.length_replicate]; rfl)) (by omega) (kp1 (wr_late [2] (by kernel_rfl) (by kernel_rfl) (by omega) 3 (by kernel_rfl) (by simp [keys]) (fac (lo1 rfl (by omega)) fan))) ?_
 refine PQ.op (dst := none) (v := (.tuple #[])) (n1 := (n1 + 2)) (d1 := [((n1 + 1), some ⟨[[(W h.a), (W h.b), (W h.c), (W h.d), (W h.e)]], 5, 60, true⟩)]) rfl rfl rfl _ (seen_any (V := [(n1, some ⟨[(((List.range 80).map (wd s)).map W)], 80, 79, true⟩), ((n1 + 1), some ⟨[[(.int .u32 0), (.int .u32 0), (.int .u32 0), (.int .u32 0), (.int .u32 0)]], 5, 60, true⟩), (n1, some ⟨[((List.replicate 80 0#32).map W)], 80, 79, true⟩)]) (D := [((n + 1), some ⟨[[(.int .u32 0), (.int .u32 0), (.int .u32 0), (.int .u32 0), (.int .u32 0)]], 5, 60, true⟩), (n, some ⟨[[(W h.a), (W h.b), (W h.c), (W h.d), (W h.e)]], 5, 60, true⟩)]) (by kernel_rfl)) (r_store rfl rfl rfl rfl rfl rfl rfl (get_there (by omega) get_here) rfl rfl (Nat.le_of_ble_eq_true rfl) rfl) (by omega) (kp1 (wr_tight (by kernel_rfl) (by omega))) ?_
 refine PQ.done (d := [((n1 + 1), some ⟨[[(W h.a), (W h.b), (W h.c), (W h.d), (W h.e)]], 5, 60, true⟩), (n1, some ⟨[(((List.range 80).map (wd s)).map W)], 80, 79, true⟩), ((n1 + 1), some ⟨[[(.int .u32 0), (.int .u32 0), (.int .u32 0), (.int .u32 0), (.int .u32 0)]], 5, 60, true⟩), (n1, some ⟨[((List.replicate 80 0#32).map W)], 80, 79, true⟩)]) (by kernel_rfl) ?_
 intro _
 refine RA.seq hd ?_
 refine RA.seq hd ?_
 refine RA.region env_ok ?_
 refine OA.p (some 15) (.int .i64 0) rfl rfl rfl rfl ?_
 refine OA.nil ?_
 intro _
 refine RA.block ?_
 refine RA.weaken (D' := [((n1 + 1), some ⟨[[(W h.a), (W h.b), (W h.c), (W h.d), (W h.e)]], 5, 60, true⟩), (n1, some ⟨[(((List.range 80).map (wd s)).map W)], 80, 79, true⟩), ((n + 1), some ⟨[[(.int .u32 0), (.int .u32 0), (.int .u32 0), (.int .u32 0), (.int .u32 0)]], 5, 60, true⟩), (n, some ⟨[[(W h.a), (W h.b), (W h.c), (W h.d), (W h.e)]], 5, 60, true⟩)]) hd (Less.of (fac (mm (fun _ => get_here) (fun _ => get_here)) (fac (mm (fun _ => (get_there (by omega) get_here)) (fun _ => (get_there (by omega) get_here))) (fac (mm (fun _ => (gt2 (by omega) get_here)) (fun _ => (gt4 (by omega) get_here))) (fac (mm (fun _ => (gt3 (by omega) get_here)) (fun _ => (gt5 (by omega) get_here))) fan)))) (gone_of (by simp only [goneP, memP, List.cons_append, List.nil_append, true_or, or_true, true_and, and_true, or_false] <;> omega))) ?_
 refine RA.loop hd (fun kk_ τ n' D => ∃ i : Nat,  kk_ = (80 - i) ∧ (n1 + 2) ≤ n' ∧ Has τ [(2, (.pointer (some ⟨n, 0, some 0⟩))), (4, (.pointer (some ⟨(n + 1), 0, some 0⟩))), (5, (.pointer (some ⟨n1, 0, some 0⟩))), (6, (.pointer (some ⟨(n1 + 1), 0, some 0⟩))), (15, (.int .i64 ((i : Nat) : Int)))] ∧ D = [((n1 + 1), some ⟨[[(W (rd (wd s) h i).a), (W (rd (wd s) h i).b), (W (rd (wd s) h i).c), (W (rd (wd s) h i).d), (W (rd (wd s) h i).e)]], 5, 60, true⟩), (n1, some ⟨[(((List.range 80).map (wd s)).map W)], 80, 79, true⟩), ((n + 1), some ⟨[[(.int .u32 0), (.int .u32 0), (.int .u32 0), (.int .u32 0), (.int .u32 0)]], 5, 60, true⟩), (n, some ⟨[[(W h.a), (W h.b), (W h.c), (W h.d), (W h.e)]], 5, 60, true⟩)] ∧ (∀ i ∈ keys D, i < n') ∧ i ≤ 80) ((80 - 0)) ⟨0, rfl, by omega, ⟨rfl, rfl, rfl, rfl, rfl, trivial⟩, rfl, (kb4 (by omega)), by omega⟩ ?_
 rintro kn2 τ2 n2 _ ⟨i, rfl, hn2, hHn2, rfl, hKn2, hIn2⟩
 rw [Has.eq hHn2]
 have hKn2_0 : (n1 + 1) < n2 := hKn2 _ (by simp only [keys, List.map_cons, List.map_nil, List.mem_cons, true_or, or_true])
 have hKn2_1 : n1 < n2 := hKn2 _ (by simp only [keys, List.map_cons, List.map_nil, List.mem_cons, true_or, or_true])
 have hKn2_2 : (n + 1) < n2 := hKn2 _ (by simp only [keys, List.map_cons, List.map_nil, List.mem_cons, true_or, or_true])
 have hKn2_3 : n < n2 := hKn2 _ (by simp only [keys, List.map_cons, List.map_nil, List.mem_cons, true_or, or_true])
 simp only [keys, List.map, List.forall_mem_cons, List.mem_cons, List.not_mem_nil, false_imp_iff, implies_true, and_true] at hKn2
 refine RA.seq hd ?_
 refine RA.region env_ok ?_
 by_cases hc1 : ((i : Nat) : Int) < 80
 ·
  refine OA.p (some 16) (.bool true) rfl rfl rfl (Eq.trans (r_bin rfl rfl rfl (b_lss rfl)) (dT hc1)) ?_
  refine OA.nil ?_
  intro _
  refine RA.seq hd ?_
  refine RA.condT rfl ?_
  refine RA.skip env_ok ?_
  intro _
  refine RA.seq hd ?_
  refine RA.block ?_
  refine RA.seq hd ?_
  refine RA.region env_ok ?_
  refine OA.p (some 17) (.int .i64 ((i : Nat) : Int)) rfl rfl rfl rfl ?_
  refine OA.p (some 7) (.int .i64 ((i : Nat) : Int)) rfl rfl rfl rfl ?_
  refine OA.nil ?_
  intro _
  refine RA.seq hd ?_
  refine RA.region env_ok ?_
  refine OA.p (some 19) (.int .i64 ((i : Nat) : Int)) rfl rfl rfl rfl ?_
  refine OA.p (some 20) (.pointer (some ⟨(n1 + 1), 0, some 1⟩)) rfl rfl rfl (r_iaA (l := 1) rfl rfl rfl rfl rfl rfl (by omega) (by omega) (by show 0 + 1 * 1 = 1; omega)) ?_
  refine OA.p (some 21) (W (rd (wd s) h i).b) rfl rfl rfl (r_load1 rfl rfl rfl rfl rfl get_here rfl rfl) ?_
  refine OA.p (some 22) (.pointer (some ⟨(n1 + 1), 0, some 2⟩)) rfl rfl rfl (r_iaA (l := 2) rfl rfl rfl rfl rfl rfl (by omega) (by omega) (by show 0 + 2 * 1 = 2; omega)) ?_
  refine OA.p (some 23) (W (rd (wd s) h i).c) rfl rfl rfl (r_load1 rfl rfl rfl rfl rfl get_here rfl rfl) ?_
  refine OA.p (some 24) (.pointer (some ⟨(n1 + 1), 0, some 3⟩)) rfl rfl rfl (r_iaA (l := 3) rfl rfl rfl rfl rfl rfl (by omega) (by omega) (by show 0 + 3 * 1 = 3; omega)) ?_
  refine OA.p (some 25) (W (rd (wd s) h i).d) rfl rfl rfl (r_load1 rfl rfl rfl rfl rfl get_here rfl rfl) ?_
  refine OA.callP (dst := (some 26)) (all := [(.int .i64 ((i : Nat) : Int)), (W (rd (wd s) h i).b), (W (rd (wd s) h i).c), (W (rd (wd s) h i).d)]) (v := (.tuple ⟨[(W (fk i (rd (wd s) h i).b (rd (wd s) h i).c (rd (wd s) h i).d).1), (W (fk i (rd (wd s) h i).b (rd (wd s) h i).c (rd (wd s) h i).d).2)]⟩)) (hd.of (by omega) (kb4 (by omega))) rfl rfl rfl rfl rfl rfl rfl rfl (s56 i (by omega) _ _ _) ?_
  intro n3 hn3
  refine OA.p (some 18) (.tuple ⟨[(W (fk i (rd (wd s) h i).b (rd (wd s) h i).c (rd (wd s) h i).d).1), (W (fk i (rd (wd s) h i).b (rd (wd s) h i).c (rd (wd s) h i).d).2)]⟩) rfl rfl rfl rfl ?_
  refine OA.p (some 27) (W (fk i (rd (wd s) h i).b (rd (wd s) h i).c (rd (wd s) h i).d).1) rfl rfl rfl rfl ?_
  refine OA.p (some 28) (W (fk i (rd (wd s) h i).b (rd (wd s) h i).c (rd (wd s) h i).d).2) rfl rfl rfl rfl ?_
  refine OA.p (some 8) (W (fk i (rd (wd s) h i).b (rd (wd s) h i).c (rd (wd s) h i).d).1) rfl rfl rfl rfl ?_
  refine OA.p (some 9) (W (fk i (rd (wd s) h i).b (rd (wd s) h i).c (rd (wd s) h i).d).2) rfl rfl rfl rfl ?_
  refine OA.nil ?_
  intro _
  refine RA.seq hd ?_
  refine RA.par (md := [some [], some [(n1 + 1)], some [], some [], some [], some [], some [(n1 + 1)], some [], some [], some [], some [], some [], some [n1], some [], some []]) env_ok (hd.of (by omega) (kb4 (by omega))) (by kernel_rfl) ?_
  refine PQ.pure (dst := (some 29)) (v := (.pointer (some ⟨(n1 + 1), 0, some 0⟩))) rfl rfl rfl noStore (none_ok _ _) (r_iaA (l := 0) rfl rfl rfl rfl rfl rfl (by omega) (by omega) (by show 0 + 0 * 1 = 0; omega)) ?_
  refine PQ.pure (dst := (some 30)) (v := (W (rd (wd s) h i).a)) rfl rfl rfl (app [((n1 + 1), some ⟨[[(W (rd (wd s) h i).a), (W (rd (wd s) h i).b), (W (rd (wd s) h i).c), (W (rd (wd s) h i).d), (W (rd (wd s) h i).e)]], 5, 60, true⟩)] noStore) (seen_one (V := []) (D := [((n1 + 1), some ⟨[[(W (rd (wd s) h i).a), (W (rd (wd s) h i).b), (W (rd (wd s) h i).c), (W (rd (wd s) h i).d), (W (rd (wd s) h i).e)]], 5, 60, true⟩), (n1, some ⟨[(((List.range 80).map (wd s)).map W)], 80, 79, true⟩), ((n + 1), some ⟨[[(.int .u32 0), (.int .u32 0), (.int .u32 0), (.int .u32 0), (.int .u32 0)]], 5, 60, true⟩), (n, some ⟨[[(W h.a), (W h.b), (W h.c), (W h.d), (W h.e)]], 5, 60, true⟩)]) (by kernel_rfl) get_here) (r_load1 rfl rfl rfl rfl rfl get_here rfl rfl) ?_
  refine PQ.callP (dst := (some 31)) (all := [(W (rd (wd s) h i).a), (.int .i64 5)]) (v := (W (rl (rd (wd s) h i).a 5))) noStore (dom_none _) rfl rfl rfl rfl rfl rfl rfl rfl (none_ok _ _) (s57 _ 5 (by decide)) ?_
  intro n4 hn4
  refine PQ.pure (dst := (some 32)) (v := (W (fk i (rd (wd s) h i).b (rd (wd s) h i).c (rd (wd s) h i).d).1)) rfl rfl rfl noStore (none_ok _ _) rfl ?_
  refine PQ.pure (dst := (some 33)) (v := (W ((rl (rd (wd s) h i).a 5) + (fk i (rd (wd s) h i).b (rd (wd s) h i).c (rd (wd s) h i).d).1))) rfl rfl rfl noStore (none_ok _ _) (r_bin rfl rfl rfl (b_addW (rl (rd (wd s) h i).a 5) (fk i (rd (wd s) h i).b (rd (wd s) h i).c (rd (wd s) h i).d).1)) ?_
  refine PQ.pure (dst := (some 34)) (v := (.pointer (some ⟨(n1 + 1), 0, some 4⟩))) rfl rfl rfl noStore (none_ok _ _) (r_iaA (l := 4) rfl rfl rfl rfl rfl rfl (by omega) (by omega) (by show 0 + 4 * 1 = 4; omega)) ?_
  refine PQ.pure (dst := (some 35)) (v := (W (rd (wd s) h i).e)) rfl rfl rfl (app [((n1 + 1), some ⟨[[(W (rd (wd s) h i).a), (W (rd (wd s) h i).b), (W (rd (wd s) h i).c), (W (rd (wd s) h i).d), (W (rd (wd s) h i).e)]], 5, 60, true⟩)] noStore) (seen_one (V := []) (D := [((n1 + 1), some ⟨[[(W (rd (wd s) h i).a), (W (rd (wd s) h i).b), (W (rd (wd s) h i).c), (W (rd (wd s) h i).d), (W (rd (wd s) h i).e)]], 5, 60, true⟩), (n1, some ⟨[(((List.range 80).map (wd s)).map W)], 80, 79, true⟩), ((n + 1), some ⟨[[(.int .u32 0), (.int .u32 0), (.int .u32 0), (.int .u32 0), (.int .u32 0)]], 5, 60, true⟩), (n, some ⟨[[(W h.a), (W h.b), (W h.c), (W h.d), (W h.e)]], 5, 60, true⟩)]) (by kernel_rfl) get_here) (r_load1 rfl rfl rfl rfl rfl get_here rfl rfl) ?_
  refine PQ.pure (dst := (some 36)) (v := (W (((rl (rd (wd s) h i).a 5) + (fk i (rd (wd s) h i).b (rd (wd s) h i).c (rd (wd s) h i).d).1) + (rd (wd s) h i).e))) rfl rfl rfl noStore (none_ok _ _) (r_bin rfl rfl rfl (b_addW ((rl (rd (wd s) h i).a 5) + (fk i (rd (wd s) h i).b (rd (wd s) h i).c (rd (wd s) h i).d).1) (rd (wd s) h i).e)) ?_
  refine PQ.pure (dst := (some 37)) (v := (W (fk i (rd (wd s) h i).b (rd (wd s) h i).c (rd (wd s) h i).d).2)) rfl rfl rfl noStore (none_ok _ _) rfl ?_
  refine PQ.pure (dst := (some 38)) (v := (W ((((rl (rd (wd s) h i).a 5) + (fk i (rd (wd s) h i).b (rd (wd s) h i).c (rd (wd s) h i).d).1) + (rd (wd s) h i).e) + (fk i (rd (wd s) h i).b (rd (wd s) h i).c (rd (wd s) h i).d).2))) rfl rfl rfl noStore (none_ok _ _) (r_bin rfl rfl rfl (b_addW (((rl (rd (wd s) h i).a 5) + (fk i (rd (wd s) h i).b (rd (wd s) h i).c (rd (wd s) h i).d).1) + (rd (wd s) h i).e) (fk i (rd (wd s) h i).b (rd (wd s) h i).c (rd (wd s) h i).d).2)) ?_
  refine PQ.pure (dst := (some 39)) (v := (.int .i64 ((i : Nat) : Int))) rfl rfl rfl noStore (none_ok _ _) rfl ?_
  refine PQ.pure (dst := (some 40)) (v := (.pointer (some ⟨n1, 0, some i⟩))) rfl rfl rfl noStore (none_ok _ _) (r_iaA (l := i) rfl rfl rfl rfl rfl rfl (by omega) (by omega) (by show 0 + i * 1 = i; omega)) ?_
  refine PQ.pure (dst := (some 41)) (v := (W ((wd s) i))) rfl rfl rfl (app [(n1, some ⟨[(((List.range 80).map (wd s)).map W)], 80, 79, true⟩)] noStore) (seen_one (V := []) (D := [((n1 + 1), some ⟨[[(W (rd (wd s) h i).a), (W (rd (wd s) h i).b), (W (rd (wd s) h i).c), (W (rd (wd s) h i).d), (W (rd (wd s) h i).e)]], 5, 60, true⟩), (n1, some ⟨[(((List.range 80).map (wd s)).map W)], 80, 79, true⟩), ((n + 1), some ⟨[[(.int .u32 0), (.int .u32 0), (.int .u32 0), (.int .u32 0), (.int .u32 0)]], 5, 60, true⟩), (n, some ⟨[[(W h.a), (W h.b), (W h.c), (W h.d), (W h.e)]], 5, 60, true⟩)]) (by kernel_rfl) (get_there (by omega) get_here)) (r_load1 rfl rfl rfl rfl rfl get_here rfl (mapWf_get (by omega))) ?_
  refine PQ.pure (dst := (some 42)) (v := (W (((((rl (rd (wd s) h i).a 5) + (fk i (rd (wd s) h i).b (rd (wd s) h i).c (rd (wd s) h i).d).1) + (rd (wd s) h i).e) + (fk i (rd (wd s) h i).b (rd (wd s) h i).c (rd (wd s) h i).d).2) + ((wd s) i)))) rfl rfl rfl noStore (none_ok _ _) (r_bin rfl rfl rfl (b_addW ((((rl (rd (wd s) h i).a 5) + (fk i (rd (wd s) h i).b (rd (wd s) h i).c (rd (wd s) h i).d).1) + (rd (wd s) h i).e) + (fk i (rd (wd s) h i).b (rd (wd s) h i).c (rd (wd s) h i).d).2) ((wd s) i))) ?_
  refine PQ.pure (dst := (some 10)) (v := (W (((((rl (rd (wd s) h i).a 5) + (fk i (rd (wd s) h i).b (rd (wd s) h i).c (rd (wd s) h i).d).1) + (rd (wd s) h i).e) + (fk i (rd (wd s) h i).b (rd (wd s) h i).c (rd (wd s) h i).d).2) + ((wd s) i)))) rfl rfl rfl noStore (none_ok _ _) rfl ?_
  refine PQ.done (d := []) (by kernel_rfl) ?_
  intro _
  refine RA.rebase [(2, (.pointer (some ⟨n, 0, some 0⟩))), (4, (.pointer (some ⟨(n + 1), 0, some 0⟩))), (5, (.pointer (some ⟨n1, 0, some 0⟩))), (6, (.pointer (some ⟨(n1 + 1), 0, some 0⟩))), (7, (.int .i64 ((i : Nat) : Int))), (8, (W (fk i (rd (wd s) h i).b (rd (wd s) h i).c (rd (wd s) h i).d).1)), (9, (W (fk i (rd (wd s) h i).b (rd (wd s) h i).c (rd (wd s) h i).d).2)), (10, (W (((((rl (rd (wd s) h i).a 5) + (fk i (rd (wd s) h i).b (rd (wd s) h i).c (rd (wd s) h i).d).1) + (rd (wd s) h i).e) + (fk i (rd (wd s) h i).b (rd (wd s) h i).c (rd (wd s) h i).d).2) + ((wd s) i)))), (15, (.int .i64 ((i : Nat) : Int))), (16, (.bool true))] ⟨rfl, rfl, rfl, rfl, rfl, rfl, rfl, rfl, rfl, rfl, trivial⟩ (fun τr5 => ?_)
  refine RA.par (md := [some [], some [], some [(n1 + 1)], some [], some [(n1 + 1)], some [], some [], some [(n1 + 1)], some [], some [(n1 + 1)], some [], none]) env_ok (hd.of (by omega) (kb4 (by omega))) (by kernel_rfl) ?_
  refine PQ.pure (dst := (some 43)) (v := (W (((((rl (rd (wd s) h i).a 5) + (fk i (rd (wd s) h i).b (rd (wd s) h i).c (rd (wd s) h i).d).1) + (rd (wd s) h i).e) + (fk i (rd (wd s) h i).b (rd (wd s) h i).c (rd (wd s) h i).d).2) + ((wd s) i)))) rfl rfl rfl noStore (none_ok _ _) rfl ?_
  refine PQ.pure (dst := (some 44)) (v := (.pointer (some ⟨(n1 + 1), 0, some 0⟩))) rfl rfl rfl noStore (none_ok _ _) (r_iaA (l := 0) rfl rfl rfl rfl rfl rfl (by omega) (by omega) (by show 0 + 0 * 1 = 0; omega)) ?_
  refine PQ.pure (dst := (some 45)) (v := (W (rd (wd s) h i).a)) rfl rfl rfl (app [((n1 + 1), some ⟨[[(W (rd (wd s) h i).a), (W (rd (wd s) h i).b), (W (rd (wd s) h i).c), (W (rd (wd s) h i).d), (W (rd (wd s) h i).e)]], 5, 60, true⟩)] noStore) (seen_one (V := []) (D := [((n1 + 1), some ⟨[[(W (rd (wd s) h i).a), (W (rd (wd s) h i).b), (W (rd (wd s) h i).c), (W (rd (wd s) h i).d), (W (rd (wd s) h i).e)]], 5, 60, true⟩), (n1, some ⟨[(((List.range 80).map (wd s)).map W)], 80, 79, true⟩), ((n + 1), some ⟨[[(.int .u32 0), (.int .u32 0), (.int .u32 0), (.int .u32 0), (.int .u32 0)]], 5, 60, true⟩), (n, some ⟨[[(W h.a), (W h.b), (W h.c), (W h.d), (W h.e)]], 5, 60, true⟩)]) (by kernel_rfl) get_here) (r_load1 rfl rfl rfl rfl rfl get_here rfl rfl) ?_
  refine PQ.pure (dst := (some 46)) (v := (.pointer (some ⟨(n1 + 1), 0, some 1⟩))) rfl rfl rfl noStore (none_ok _ _) (r_iaA (l := 1) rfl rfl rfl rfl rfl rfl (by omega) (by omega) (by show 0 + 1 * 1 = 1; omega)) ?_
  refine PQ.pure (dst := (some 47)) (v := (W (rd (wd s) h i).b)) rfl rfl rfl (app [((n1 + 1), some ⟨[[(W (rd (wd s) h i).a), (W (rd (wd s) h i).b), (W (rd (wd s) h i).c), (W (rd (wd s) h i).d), (W (rd (wd s) h i).e)]], 5, 60, true⟩)] noStore) (seen_one (V := []) (D := [((n1 + 1), some ⟨[[(W (rd (wd s) h i).a), (W (rd (wd s) h i).b), (W (rd (wd s) h i).c), (W (rd (wd s) h i).d), (W (rd (wd s) h i).e)]], 5, 60, true⟩), (n1, some ⟨[(((List.range 80).map (wd s)).map W)], 80, 79, true⟩), ((n + 1), some ⟨[[(.int .u32 0), (.int .u32 0), (.int .u32 0), (.int .u32 0), (.int .u32 0)]], 5, 60, true⟩), (n, some ⟨[[(W h.a), (W h.b), (W h.c), (W h.d), (W h.e)]], 5, 60, true⟩)]) (by kernel_rfl) get_here) (r_load1 rfl rfl rfl rfl rfl get_here rfl rfl) ?_
  refine PQ.callP (dst := (some 48)) (all := [(W (rd (wd s) h i).b), (.int .i64 30)]) (v := (W (rl (rd (wd s) h i).b 30))) noStore (dom_none _) rfl rfl rfl rfl rfl rfl rfl rfl (none_ok _ _) (s57 _ 30 (by decide)) ?_
  intro n6 hn6
  refine PQ.pure (dst := (some 49)) (v := (.pointer (some ⟨(n1 + 1), 0, some 2⟩))) rfl rfl rfl noStore (none_ok _ _) (r_iaA (l := 2) rfl rfl rfl rfl rfl rfl (by omega) (by omega) (by show 0 + 2 * 1 = 2; omega)) ?_
  refine PQ.pure (dst := (some 50)) (v := (W (rd (wd s) h i).c)) rfl rfl rfl (app [((n1 + 1), some ⟨[[(W (rd (wd s) h i).a), (W (rd (wd s) h i).b), (W (rd (wd s) h i).c), (W (rd (wd s) h i).d), (W (rd (wd s) h i).e)]], 5, 60, true⟩)] noStore) (seen_one (V := []) (D := [((n1 + 1), some ⟨[[(W (rd (wd s) h i).a), (W (rd (wd s) h i).b), (W (rd (wd s) h i).c), (W (rd (wd s) h i).d), (W (rd (wd s) h i).e)]], 5, 60, true⟩), (n1, some ⟨[(((List.range 80).map (wd s)).map W)], 80, 79, true⟩), ((n + 1), some ⟨[[(.int .u32 0), (.int .u32 0), (.int .u32 0), (.int .u32 0), (.int .u32 0)]], 5, 60, true⟩), (n, some ⟨[[(W h.a), (W h.b), (W h.c), (W h.d), (W h.e)]], 5, 60, true⟩)]) (by kernel_rfl) get_here) (r_load1 rfl rfl rfl rfl rfl get_here rfl rfl) ?_
  refine PQ.pure (dst := (some 51)) (v := (.pointer (some ⟨(n1 + 1), 0, some 3⟩))) rfl rfl rfl noStore (none_ok _ _) (r_iaA (l := 3) rfl rfl rfl rfl rfl rfl (by omega) (by omega) (by show 0 + 3 * 1 = 3; omega)) ?_
  refine PQ.pure (dst := (some 52)) (v := (W (rd (wd s) h i).d)) rfl rfl rfl (app [((n1 + 1), some ⟨[[(W (rd (wd s) h i).a), (W (rd (wd s) h i).b), (W (rd (wd s) h i).c), (W (rd (wd s) h i).d), (W (rd (wd s) h i).e)]], 5, 60, true⟩)] noStore) (seen_one (V := []) (D := [((n1 + 1), some ⟨[[(W (rd (wd s) h i).a), (W (rd (wd s) h i).b), (W (rd (wd s) h i).c), (W (rd (wd s) h i).d), (W (rd (wd s) h i).e)]], 5, 60, true⟩), (n1, some ⟨[(((List.range 80).map (wd s)).map W)], 80, 79, true⟩), ((n + 1), some ⟨[[(.int .u32 0), (.int .u32 0), (.int .u32 0), (.int .u32 0), (.int .u32 0)]], 5, 60, true⟩), (n, some ⟨[[(W h.a), (W h.b), (W h.c), (W h.d), (W h.e)]], 5, 60, true⟩)]) (by kernel_rfl) get_here) (r_load1 rfl rfl rfl rfl rfl get_here rfl rfl) ?_
  refine PQ.pure (dst := (some 53)) (v := (.agg ⟨[(W (((((rl (rd (wd s) h i).a 5) + (fk i (rd (wd s) h i).b (rd (wd s) h i).c (rd (wd s) h i).d).1) + (rd (wd s) h i).e) + (fk i (rd (wd s) h i).b (rd (wd s) h i).c (rd (wd s) h i).d).2) + ((wd s) i))), (W (rd (wd s) h i).a), (W (rl (rd (wd s) h i).b 30)), (W (rd (wd s) h i).c), (W (rd (wd s) h i).d)]⟩)) rfl rfl rfl noStore (none_ok _ _) (by kernel_rfl) ?_
  refine PQ.op (dst := none) (v := (.tuple #[])) (n1 := n6) (d1 := [((n1 + 1), some ⟨[[(W (((((rl (rd (wd s) h i).a 5) + (fk i (rd (wd s) h i).b (rd (wd s) h i).c (rd (wd s) h i).d).1) + (rd (wd s) h i).e) + (fk i (rd (wd s) h i).b (rd (wd s) h i).c (rd (wd s) h i).d).2) + ((wd s) i))), (W (rd (wd s) h i).a), (W (rl (rd (wd s) h i).b 30)), (W (rd (wd s) h i).c), (W (rd (wd s) h i).d)]], 5, 60, true⟩)]) rfl rfl rfl _ (seen_any (V := []) (D := [((n1 + 1), some ⟨[[(W (rd (wd s) h i).a), (W (rd (wd s) h i).b), (W (rd (wd s) h i).c), (W (rd (wd s) h i).d), (W (rd (wd s) h i).e)]], 5, 60, true⟩), (n1, some ⟨[(((List.range 80).map (wd s)).map W)], 80, 79, true⟩), ((n + 1), some ⟨[[(.int .u32 0), (.int .u32 0), (.int .u32 0), (.int .u32 0), (.int .u32 0)]], 5, 60, true⟩), (n, some ⟨[[(W h.a), (W h.b), (W h.c), (W h.d), (W h.e)]], 5, 60, true⟩)]) (by kernel_rfl)) (r_store rfl rfl rfl rfl rfl rfl rfl get_here rfl rfl (Nat.le_of_ble_eq_true rfl) rfl) (by omega) (kp1 (wr_tight (by kernel_rfl) (by omega))) ?_
  refine PQ.done (d := [((n1 + 1), some ⟨[[(W (((((rl (rd (wd s) h i).a 5) + (fk i (rd (wd s) h i).b (rd (wd s) h i).c (rd (wd s) h i).d).1) + (rd (wd s) h i).e) + (fk i (rd (wd s) h i).b (rd (wd s) h i).c (rd (wd s) h i).d).2) + ((wd s) i))), (W (rd (wd s) h i).a), (W (rl (rd (wd s) h i).b 30)), (W (rd (wd s) h i).c), (W (rd (wd s) h i).d)]], 5, 60, true⟩)]) (by kernel_rfl) ?_
  intro _
  refine RA.weaken (D' := [((n1 + 1), some ⟨[[(W (((((rl (rd (wd s) h i).a 5) + (fk i (rd (wd s) h i).b (rd (wd s) h i).c (rd (wd s) h i).d).1) + (rd (wd s) h i).e) + (fk i (rd (wd s) h i).b (rd (wd s) h i).c (rd (wd s) h i).d).2) + ((wd s) i))), (W (rd (wd s) h i).a), (W (rl (rd (wd s) h i).b 30)), (W (rd (wd s) h i).c), (W (rd (wd s) h i).d)]], 5, 60, true⟩), (n1, some ⟨[(((List.range 80).map (wd s)).map W)], 80, 79, true⟩), ((n + 1), some ⟨[[(.int .u32 0), (.int .u32 0), (.int .u32 0), (.int .u32 0), (.int .u32 0)]], 5, 60, true⟩), (n, some ⟨[[(W h.a), (W h.b), (W h.c), (W h.d), (W h.e)]], 5, 60, true⟩)]) hd (Less.of (fac (mm (fun _ => get_here) (fun _ => get_here)) (fac (mm (fun _ => (get_there (by omega) get_here)) (fun _ => (gt2 (by omega) get_here))) (fac (mm (fun _ => (gt2 (by omega) get_here)) (fun _ => (gt3 (by omega) get_here))) (fac (mm (fun _ => (gt3 (by omega) get_here)) (fun _ => (gt4 (by omega) get_here))) fan)))) (gone_of (by simp only [goneP, memP, List.cons_append, List.nil_append, true_or, or_true, true_and, and_true, or_false] <;> omega))) ?_
  refine RA.region env_ok ?_
  refine OA.p (some 54) (.int .i64 (((i + 1) : Nat) : Int)) rfl rfl rfl (r_bin rfl rfl rfl (b_add (i64_eq (by omega)))) ?_
  refine OA.p (some 15) (.int .i64 (((i + 1) : Nat) : Int)) rfl rfl rfl rfl ?_
  refine OA.nil ?_
  refine ⟨(80 - (i + 1)), by omega, [((n1 + 1), some ⟨[[(W (((((rl (rd (wd s) h i).a 5) + (fk i (rd (wd s) h i).b (rd (wd s) h i).c (rd (wd s) h i).d).1) + (rd (wd s) h i).e) + (fk i (rd (wd s) h i).b (rd (wd s) h i).c (rd (wd s) h i).d).2) + ((wd s) i))), (W (rd (wd s) h i).a), (W (rl (rd (wd s) h i).b 30)), (W (rd (wd s) h i).c), (W (rd (wd s) h i).d)]], 5, 60, true⟩), (n1, some ⟨[(((List.range 80).map (wd s)).map W)], 80, 79, true⟩), ((n + 1), some ⟨[[(.int .u32 0), (.int .u32 0), (.int .u32 0), (.int .u32 0), (.int .u32 0)]], 5, 60, true⟩), (n, some ⟨[[(W h.a), (W h.b), (W h.c), (W h.d), (W h.e)]], 5, 60, true⟩)], (Less.refl _ _ _), (i + 1), rfl, by omega, ⟨rfl, rfl, rfl, rfl, rfl, trivial⟩, rfl, (kb4 (by omega)), by omega⟩
 ·
  refine OA.p (some 16) (.bool false) rfl rfl rfl (Eq.trans (r_bin rfl rfl rfl (b_lss rfl)) (dF hc1)) ?_
  refine OA.nil ?_
  intro _
  refine RA.seq hd ?_
  refine RA.condF rfl ?_
  refine RA.exit env_ok ?_
  intro _
  refine RA.seq hd ?_
  refine RA.seq hd ?_
  refine RA.region env_ok ?_
  refine OA.p (some 55) (.int .i64 0) rfl rfl rfl rfl ?_
  refine OA.nil ?_
  intro _
  refine RA.block ?_
  refine RA.unroll hd ?_
  refine RA.seq hd ?_
  refine RA.region env_ok ?_
  refine OA.p (some 56) (.bool true) rfl rfl rfl (r_bin rfl rfl rfl (b_lss rfl)) ?_
  refine OA.nil ?_
  intro _
  refine RA.seq hd ?_
  refine RA.condT rfl ?_
  refine RA.skip env_ok ?_
  intro _
  refine RA.seq hd ?_
  refine RA.block ?_
  refine RA.seq hd ?_
  refine RA.region env_ok ?_
  refine OA.p (some 57) (.int .i64 0) rfl rfl rfl rfl ?_
  refine OA.p (some 11) (.int .i64 0) rfl rfl rfl rfl ?_
  refine OA.nil ?_
  intro _
  refine RA.par (md := [some [], some [], some [n], some [], some [], some [(n1 + 1)], some [], some [], none]) env_ok (hd.of (by omega) (kb4 (by omega))) (by kernel_rfl) ?_
  refine PQ.pure (dst := (some 58)) (v := (.int .i64 0)) rfl rfl rfl noStore (none_ok _ _) rfl ?_
  refine PQ.pure (dst := (some 59)) (v := (.pointer (some ⟨n, 0, some 0⟩))) rfl rfl rfl noStore (none_ok _ _) (r_iaA (l := 0) rfl rfl rfl rfl rfl rfl (by omega) (by omega) (by show 0 + 0 * 1 = 0; omega)) ?_
  refine PQ.pure (dst := (some 60)) (v := (W h.a)) rfl rfl rfl (app [(n, some ⟨[[(W h.a), (W h.b), (W h.c), (W h.d), (W h.e)]], 5, 60, true⟩)] noStore) (seen_one (V := []) (D := [((n1 + 1), some ⟨[[(W (rd (wd s) h i).a), (W (rd (wd s) h i).b), (W (rd (wd s) h i).c), (W (rd (wd s) h i).d), (W (rd (wd s) h i).e)]], 5, 60, true⟩), (n1, some ⟨[(((List.range 80).map (wd s)).map W)], 80, 79, true⟩), ((n + 1), some ⟨[[(.int .u32 0), (.int .u32 0), (.int .u32 0), (.int .u32 0), (.int .u32 0)]], 5, 60, true⟩), (n, some ⟨[[(W h.a), (W h.b), (W h.c), (W h.d), (W h.e)]], 5, 60, true⟩)]) (by kernel_rfl) (gt3 (by omega) get_here)) (r_load1 rfl rfl rfl rfl rfl get_here rfl rfl) ?_
  refine PQ.pure (dst := (some 61)) (v := (.int .i64 0)) rfl rfl rfl noStore (none_ok _ _) rfl ?_
  refine PQ.pure (dst := (some 62)) (v := (.pointer (some ⟨(n1 + 1), 0, some 0⟩))) rfl rfl rfl noStore (none_ok _ _) (r_iaA (l := 0) rfl rfl rfl rfl rfl rfl (by omega) (by omega) (by show 0 + 0 * 1 = 0; omega)) ?_
  refine PQ.pure (dst := (some 63)) (v := (W (rd (wd s) h i).a)) rfl rfl rfl (app [((n1 + 1), some ⟨[[(W (rd (wd s) h i).a), (W (rd (wd s) h i).b), (W (rd (wd s) h i).c), (W (rd (wd s) h i).d), (W (rd (wd s) h i).e)]], 5, 60, true⟩)] noStore) (seen_one (V := []) (D := [((n1 + 1), some ⟨[[(W (rd (wd s) h i).a), (W (rd (wd s) h i).b), (W (rd (wd s) h i).c), (W (rd (wd s) h i).d), (W (rd (wd s) h i).e)]], 5, 60, true⟩), (n1, some ⟨[(((List.range 80).map (wd s)).map W)], 80, 79, true⟩), ((n + 1), some ⟨[[(.int .u32 0), (.int .u32 0), (.int .u32 0), (.int .u32 0), (.int .u32 0)]], 5, 60, true⟩), (n, some ⟨[[(W h.a), (W h.b), (W h.c), (W h.d), (W h.e)]], 5, 60, true⟩)]) (by kernel_rfl) get_here) (r_load1 rfl rfl rfl rfl rfl get_here rfl rfl) ?_
  refine PQ.pure (dst := (some 64)) (v := (W (h.a + (rd (wd s) h i).a))) rfl rfl rfl noStore (none_ok _ _) (r_bin rfl rfl rfl (b_addW h.a (rd (wd s) h i).a)) ?_
  refine PQ.pure (dst := (some 65)) (v := (.pointer (some ⟨n, 0, some 0⟩))) rfl rfl rfl noStore (none_ok _ _) (r_iaA (l := 0) rfl rfl rfl rfl rfl rfl (by omega) (by omega) (by show 0 + 0 * 1 = 0; omega)) ?_
  refine PQ.op (dst := none) (v := (.tuple #[])) (n1 := n2) (d1 := [(n, some ⟨[[(W (h.a + (rd (wd s) h i).a)), (W h.b), (W h.c), (W h.d), (W h.e)]], 5, 60, true⟩)]) rfl rfl rfl _ (seen_any (V := []) (D := [((n1 + 1), some ⟨[[(W (rd (wd s) h i).a), (W (rd (wd s) h i).b), (W (rd (wd s) h i).c), (W (rd (wd s) h i).d), (W (rd (wd s) h i).e)]], 5, 60, true⟩), (n1, some ⟨[(((List.range 80).map (wd s)).map W)], 80, 79, true⟩), ((n + 1), some ⟨[[(.int .u32 0), (.int .u32 0), (.int .u32 0), (.int .u32 0), (.int .u32 0)]], 5, 60, true⟩), (n, some ⟨[[(W h.a), (W h.b), (W h.c), (W h.d), (W h.e)]], 5, 60, true⟩)]) (by kernel_rfl)) (r_store rfl rfl rfl rfl rfl rfl rfl (gt3 (by omega) get_here) rfl rfl (Nat.le_of_ble_eq_true rfl) rfl) (by omega) (kp1 (wr_tight (by kernel_rfl) (by omega))) ?_
  refine PQ.done (d := [(n, some ⟨[[(W (h.a + (rd (wd s) h i).a)), (W h.b), (W h.c), (W h.d), (W h.e)]], 5, 60, true⟩)]) (by kernel_rfl) ?_
  intro _
  refine RA.region env_ok ?_
  refine OA.p (some 66) (.int .i64 1) rfl rfl rfl (r_bin rfl rfl rfl (b_add (i64_eq (by omega)))) ?_
  refine OA.p (some 55) (.int .i64 1) rfl rfl rfl rfl ?_
  refine OA.nil ?_
  intro _
  refine RA.unroll hd ?_
  refine RA.seq hd ?_
  refine RA.region env_ok ?_
  refine OA.p (some 56) (.bool true) rfl rfl rfl (r_bin rfl rfl rfl (b_lss rfl)) ?_
  refine OA.nil ?_
  intro _
  refine RA.seq hd ?_
  refine RA.condT rfl ?_
  refine RA.skip env_ok ?_
  intro _
  refine RA.seq hd ?_
  refine RA.block ?_
  refine RA.seq hd ?_
  refine RA.region env_ok ?_
  refine OA.p (some 57) (.int .i64 1) rfl rfl rfl rfl ?_
  refine OA.p (some 11) (.int .i64 1) rfl rfl rfl rfl ?_
  refine OA.nil ?_
  intro _
  refine RA.par (md := [some [], some [], some [n], some [], some [], some [(n1 + 1)], some [], some [], none]) env_ok (hd.of (by omega) (kb5 (by omega))) (by kernel_rfl) ?_
  refine PQ.pure (dst := (some 58)) (v := (.int .i64 1)) rfl rfl rfl noStore (none_ok _ _) rfl ?_
  refine PQ.pure (dst := (some 59)) (v := (.pointer (some ⟨n, 0, some 1⟩))) rfl rfl rfl noStore (none_ok _ _) (r_iaA (l := 1) rfl rfl rfl rfl rfl rfl (by omega) (by omega) (by show 0 + 1 * 1 = 1; omega)) ?_
  refine PQ.pure (dst := (some 60)) (v := (W h.b)) rfl rfl rfl (app [(n, some ⟨[[(W (h.a + (rd (wd s) h i).a)), (W h.b), (W h.c), (W h.d), (W h.e)]], 5, 60, true⟩)] noStore) (seen_one (V := []) (D := [(n, some ⟨[[(W (h.a + (rd (wd s) h i).a)), (W h.b), (W h.c), (W h.d), (W h.e)]], 5, 60, true⟩), ((n1 + 1), some ⟨[[(W (rd (wd s) h i).a), (W (rd (wd s) h i).b), (W (rd (wd s) h i).c), (W (rd (wd s) h i).d), (W (rd (wd s) h i).e)]], 5, 60, true⟩), (n1, some ⟨[(((List.range 80).map (wd s)).map W)], 80, 79, true⟩), ((n + 1), some ⟨[[(.int .u32 0), (.int .u32 0), (.int .u32 0), (.int .u32 0), (.int .u32 0)]], 5, 60, true⟩), (n, some ⟨[[(W h.a), (W h.b), (W h.c), (W h.d), (W h.e)]], 5, 60, true⟩)]) (by kernel_rfl) get_here) (r_load1 rfl rfl rfl rfl rfl get_here rfl rfl) ?_
  refine PQ.pure (dst := (some 61)) (v := (.int .i64 1)) rfl rfl rfl noStore (none_ok _ _) rfl ?_
  refine PQ.pure (dst := (some 62)) (v := (.pointer (some ⟨(n1 + 1), 0, some 1⟩))) rfl rfl rfl noStore (none_ok _ _) (r_iaA (l := 1) rfl rfl rfl rfl rfl rfl (by omega) (by omega) (by show 0 + 1 * 1 = 1; omega)) ?_
  refine PQ.pure (dst := (some 63)) (v := (W (rd (wd s) h i).b)) rfl rfl rfl (app [((n1 + 1), some ⟨[[(W (rd (wd s) h i).a), (W (rd (wd s) h i).b), (W (rd (wd s) h i).c), (W (rd (wd s) h i).d), (W (rd (wd s) h i).e)]], 5, 60, true⟩)] noStore) (seen_one (V := []) (D := [(n, some ⟨[[(W (h.a + (rd (wd s) h i).a)), (W h.b), (W h.c), (W h.d), (W h.e)]], 5, 60, true⟩), ((n1 + 1), some ⟨[[(W (rd (wd s) h i).a), (W (rd (wd s) h i).b), (W (rd (wd s) h i).c), (W (rd (wd s) h i).d), (W (rd (wd s) h i).e)]], 5, 60, true⟩), (n1, some ⟨[(((List.range 80).map (wd s)).map W)], 80, 79, true⟩), ((n + 1), some ⟨[[(.int .u32 0), (.int .u32 0), (.int .u32 0), (.int .u32 0), (.int .u32 0)]], 5, 60, true⟩), (n, some ⟨[[(W h.a), (W h.b), (W h.c), (W h.d), (W h.e)]], 5, 60, true⟩)]) (by kernel_rfl) (get_there (by omega) get_here)) (r_load1 rfl rfl rfl rfl rfl get_here rfl rfl) ?_
  refine PQ.pure (dst := (some 64)) (v := (W (h.b + (rd (wd s) h i).b))) rfl rfl rfl noStore (none_ok _ _) (r_bin rfl rfl rfl (b_addW h.b (rd (wd s) h i).b)) ?_
  refine PQ.pure (dst := (some 65)) (v := (.pointer (some ⟨n, 0, some 1⟩))) rfl rfl rfl noStore (none_ok _ _) (r_iaA (l := 1) rfl rfl rfl rfl rfl rfl (by omega) (by omega) (by show 0 + 1 * 1 = 1; omega)) ?_
  refine PQ.op (dst := none) (v := (.tuple #[])) (n1 := n2) (d1 := [(n, some ⟨[[(W (h.a + (rd (wd s) h i).a)), (W (h.b + (rd (wd s) h i).b)), (W h.c), (W h.d), (W h.e)]], 5, 60, true⟩)]) rfl rfl rfl _ (seen_any (V := []) (D := [(n, some ⟨[[(W (h.a + (rd (wd s) h i).a)), (W h.b), (W h.c), (W h.d), (W h.e)]], 5, 60, true⟩), ((n1 + 1), some ⟨[[(W (rd (wd s) h i).a), (W (rd (wd s) h i).b), (W (rd (wd s) h i).c), (W (rd (wd s) h i).d), (W (rd (wd s) h i).e)]], 5, 60, true⟩), (n1, some ⟨[(((List.range 80).map (wd s)).map W)], 80, 79, true⟩), ((n + 1), some ⟨[[(.int .u32 0), (.int .u32 0), (.int .u32 0), (.int .u32 0), (.int .u32 0)]], 5, 60, true⟩), (n, some ⟨[[(W h.a), (W h.b), (W h.c), (W h.d), (W h.e)]], 5, 60, true⟩)]) (by kernel_rfl)) (r_store rfl rfl rfl rfl rfl rfl rfl get_here rfl rfl (Nat.le_of_ble_eq_true rfl) rfl) (by omega) (kp1 (wr_tight (by kernel_rfl) (by omega))) ?_
  refine PQ.done (d := [(n, some ⟨[[(W (h.a + (rd (wd s) h i).a)), (W (h.b + (rd (wd s) h i).b)), (W h.c), (W h.d), (W h.e)]], 5, 60, true⟩)]) (by kernel_rfl) ?_
  intro _
  refine RA.weaken (D' := [(n, some ⟨[[(W (h.a + (rd (wd s) h i).a)), (W (h.b + (rd (wd s) h i).b)), (W h.c), (W h.d), (W h.e)]], 5, 60, true⟩), ((n1 + 1), some ⟨[[(W (rd (wd s) h i).a), (W (rd (wd s) h i).b), (W (rd (wd s) h i).c), (W (rd (wd s) h i).d), (W (rd (wd s) h i).e)]], 5, 60, true⟩), (n1, some ⟨[(((List.range 80).map (wd s)).map W)], 80, 79, true⟩), ((n + 1), some ⟨[[(.int .u32 0), (.int .u32 0), (.int .u32 0), (.int .u32 0), (.int .u32 0)]], 5, 60, true⟩)]) hd (Less.of (fac (mm (fun _ => get_here) (fun _ => get_here)) (fac (mm (fun _ => (get_there (by omega) get_here)) (fun _ => (gt2 (by omega) get_here))) (fac (mm (fun _ => (gt2 (by omega) get_here)) (fun _ => (gt3 (by omega) get_here))) (fac (mm (fun _ => (gt3 (by omega) get_here)) (fun _ => (gt4 (by omega) get_here))) fan)))) (gone_of (by simp only [goneP, memP, List.cons_append, List.nil_append, true_or, or_true, true_and, and_true, or_false] <;> omega))) ?_
  refine RA.rebase [(2, (.pointer (some ⟨n, 0, some 0⟩))), (4, (.pointer (some ⟨(n + 1), 0, some 0⟩))), (5, (.pointer (some ⟨n1, 0, some 0⟩))), (6, (.pointer (some ⟨(n1 + 1), 0, some 0⟩))), (11, (.int .i64 1)), (15, (.int .i64 ((i : Nat) : Int))), (16, (.bool false)), (55, (.int .i64 1)), (56, (.bool true))] ⟨rfl, rfl, rfl, rfl, rfl, rfl, rfl, rfl, rfl, trivial⟩ (fun τr7 => ?_)
  refine RA.region env_ok ?_
  refine OA.p (some 66) (.int .i64 2) rfl rfl rfl (r_bin rfl rfl rfl (b_add (i64_eq (by omega)))) ?_
  refine OA.p (some 55) (.int .i64 2) rfl rfl rfl rfl ?_
  refine OA.nil ?_
  intro _
  refine RA.unroll hd ?_
  refine RA.seq hd ?_
  refine RA.region env_ok ?_
  refine OA.p (some 56) (.bool true) rfl rfl rfl (r_bin rfl rfl rfl (b_lss rfl)) ?_
  refine OA.nil ?_
  intro _
  refine RA.seq hd ?_
  refine RA.condT rfl ?_
  refine RA.skip env_ok ?_
  intro _
  refine RA.seq hd ?_
  refine RA.block ?_
  refine RA.seq hd ?_
  refine RA.region env_ok ?_
  refine OA.p (some 57) (.int .i64 2) rfl rfl rfl rfl ?_
  refine OA.p (some 11) (.int .i64 2) rfl rfl rfl rfl ?_
  refine OA.nil ?_
  intro _
  refine RA.par (md := [some [], some [], some [n], some [], some [], some [(n1 + 1)], some [], some [], none]) env_ok (hd.of (by omega) (kb4 (by omega))) (by kernel_rfl) ?_
  refine PQ.pure (dst := (some 58)) (v := (.int .i64 2)) rfl rfl rfl noStore (none_ok _ _) rfl ?_
  refine PQ.pure (dst := (some 59)) (v := (.pointer (some ⟨n, 0, some 2⟩))) rfl rfl rfl noStore (none_ok _ _) (r_iaA (l := 2) rfl rfl rfl rfl rfl rfl (by omega) (by omega) (by show 0 + 2 * 1 = 2; omega)) ?_
  refine PQ.pure (dst := (some 60)) (v := (W h.c)) rfl rfl rfl (app [(n, some ⟨[[(W (h.a + (rd (wd s) h i).a)), (W (h.b + (rd (wd s) h i).b)), (W h.c), (W h.d), (W h.e)]], 5, 60, true⟩)] noStore) (seen_one (V := []) (D := [(n, some ⟨[[(W (h.a + (rd (wd s) h i).a)), (W (h.b + (rd (wd s) h i).b)), (W h.c), (W h.d), (W h.e)]], 5, 60, true⟩), ((n1 + 1), some ⟨[[(W (rd (wd s) h i).a), (W (rd (wd s) h i).b), (W (rd (wd s) h i).c), (W (rd (wd s) h i).d), (W (rd (wd s) h i).e)]], 5, 60, true⟩), (n1, some ⟨[(((List.range 80).map (wd s)).map W)], 80, 79, true⟩), ((n + 1), some ⟨[[(.int .u32 0), (.int .u32 0), (.int .u32 0), (.int .u32 0), (.int .u32 0)]], 5, 60, true⟩)]) (by kernel_rfl) get_here) (r_load1 rfl rfl rfl rfl rfl get_here rfl rfl) ?_
  refine PQ.pure (dst := (some 61)) (v := (.int .i64 2)) rfl rfl rfl noStore (none_ok _ _) rfl ?_
  refine PQ.pure (dst := (some 62)) (v := (.pointer (some ⟨(n1 + 1), 0, some 2⟩))) rfl rfl rfl noStore (none_ok _ _) (r_iaA (l := 2) rfl rfl rfl rfl rfl rfl (by omega) (by omega) (by show 0 + 2 * 1 = 2; omega)) ?_
  refine PQ.pure (dst := (some 63)) (v := (W (rd (wd s) h i).c)) rfl rfl rfl (app [((n1 + 1), some ⟨[[(W (rd (wd s) h i).a), (W (rd (wd s) h i).b), (W (rd (wd s) h i).c), (W (rd (wd s) h i).d), (W (rd (wd s) h i).e)]], 5, 60, true⟩)] noStore) (seen_one (V := []) (D := [(n, some ⟨[[(W (h.a + (rd (wd s) h i).a)), (W (h.b + (rd (wd s) h i).b)), (W h.c), (W h.d), (W h.e)]], 5, 60, true⟩), ((n1 + 1), some ⟨[[(W (rd (wd s) h i).a), (W (rd (wd s) h i).b), (W (rd (wd s) h i).c), (W (rd (wd s) h i).d), (W (rd (wd s) h i).e)]], 5, 60, true⟩), (n1, some ⟨[(((List.range 80).map (wd s)).map W)], 80, 79, true⟩), ((n + 1), some ⟨[[(.int .u32 0), (.int .u32 0), (.int .u32 0), (.int .u32 0), (.int .u32 0)]], 5, 60, true⟩)]) (by kernel_rfl) (get_there (by omega) get_here)) (r_load1 rfl rfl rfl rfl rfl get_here rfl rfl) ?_
  refine PQ.pure (dst := (some 64)) (v := (W (h.c + (rd (wd s) h i).c))) rfl rfl rfl noStore (none_ok _ _) (r_bin rfl rfl rfl (b_addW h.c (rd (wd s) h i).c)) ?_
  refine PQ.pure (dst := (some 65)) (v := (.pointer (some ⟨n, 0, some 2⟩))) rfl rfl rfl noStore (none_ok _ _) (r_iaA (l := 2) rfl rfl rfl rfl rfl rfl (by omega) (by omega) (by show 0 + 2 * 1 = 2; omega)) ?_
  refine PQ.op (dst := none) (v := (.tuple #[])) (n1 := n2) (d1 := [(n, some ⟨[[(W (h.a + (rd (wd s) h i).a)), (W (h.b + (rd (wd s) h i).b)), (W (h.c + (rd (wd s) h i).c)), (W h.d), (W h.e)]], 5, 60, true⟩)]) rfl rfl rfl _ (seen_any (V := []) (D := [(n, some ⟨[[(W (h.a + (rd (wd s) h i).a)), (W (h.b + (rd (wd s) h i).b)), (W h.c), (W h.d), (W h.e)]], 5, 60, true⟩), ((n1 + 1), some ⟨[[(W (rd (wd s) h i).a), (W (rd (wd s) h i).b), (W (rd (wd s) h i).c), (W (rd (wd s) h i).d), (W (rd (wd s) h i).e)]], 5, 60, true⟩), (n1, some ⟨[(((List.range 80).map (wd s)).map W)], 80, 79, true⟩), ((n + 1), some ⟨[[(.int .u32 0), (.int .u32 0), (.int .u32 0), (.int .u32 0), (.int .u32 0)]], 5, 60, true⟩)]) (by kernel_rfl)) (r_store rfl rfl rfl rfl rfl rfl rfl get_here rfl rfl (Nat.le_of_ble_eq_true rfl) rfl) (by omega) (kp1 (wr_tight (by kernel_rfl) (by omega))) ?_
  refine PQ.done (d := [(n, some ⟨[[(W (h.a + (rd (wd s) h i).a)), (W (h.b + (rd (wd s) h i).b)), (W (h.c + (rd (wd s) h i).c)), (W h.d), (W h.e)]], 5, 60, true⟩)]) (by kernel_rfl) ?_
  intro _
  refine RA.region env_ok ?_
  refine OA.p (some 66) (.int .i64 3) rfl rfl rfl (r_bin rfl rfl rfl (b_add (i64_eq (by omega)))) ?_
  refine OA.p (some 55) (.int .i64 3) rfl rfl rfl rfl ?_
  refine OA.nil ?_
  intro _
  refine RA.unroll hd ?_
  refine RA.seq hd ?_
  refine RA.region env_ok ?_
  refine OA.p (some 56) (.bool true) rfl rfl rfl (r_bin rfl rfl rfl (b_lss rfl)) ?_
  refine OA.nil ?_
  intro _
  refine RA.seq hd ?_
  refine RA.condT rfl ?_
  refine RA.skip env_ok ?_
  intro _
  refine RA.seq hd ?_
  refine RA.block ?_
  refine RA.seq hd ?_
  refine RA.region env_ok ?_
  refine OA.p (some 57) (.int .i64 3) rfl rfl rfl rfl ?_
  refine OA.p (some 11) (.int .i64 3) rfl rfl rfl rfl ?_
  refine OA.nil ?_
  intro _
  refine RA.par (md := [some [], some [], some [n], some [], some [], some [(n1 + 1)], some [], some [], none]) env_ok (hd.of (by omega) (kb5 (by omega))) (by kernel_rfl) ?_
  refine PQ.pure (dst := (some 58)) (v := (.int .i64 3)) rfl rfl rfl noStore (none_ok _ _) rfl ?_
  refine PQ.pure (dst := (some 59)) (v := (.pointer (some ⟨n, 0, some 3⟩))) rfl rfl rfl noStore (none_ok _ _) (r_iaA (l := 3) rfl rfl rfl rfl rfl rfl (by omega) (by omega) (by show 0 + 3 * 1 = 3; omega)) ?_
  refine PQ.pure (dst := (some 60)) (v := (W h.d)) rfl rfl rfl (app [(n, some ⟨[[(W (h.a + (rd (wd s) h i).a)), (W (h.b + (rd (wd s) h i).b)), (W (h.c + (rd (wd s) h i).c)), (W h.d), (W h.e)]], 5, 60, true⟩)] noStore) (seen_one (V := []) (D := [(n, some ⟨[[(W (h.a + (rd (wd s) h i).a)), (W (h.b + (rd (wd s) h i).b)), (W (h.c + (rd (wd s) h i).c)), (W h.d), (W h.e)]], 5, 60, true⟩), (n, some ⟨[[(W (h.a + (rd (wd s) h i).a)), (W (h.b + (rd (wd s) h i).b)), (W h.c), (W h.d), (W h.e)]], 5, 60, true⟩), ((n1 + 1), some ⟨[[(W (rd (wd s) h i).a), (W (rd (wd s) h i).b), (W (rd (wd s) h i).c), (W (rd (wd s) h i).d), (W (rd (wd s) h i).e)]], 5, 60, true⟩), (n1, some ⟨[(((List.range 80).map (wd s)).map W)], 80, 79, true⟩), ((n + 1), some ⟨[[(.int .u32 0), (.int .u32 0), (.int .u32 0), (.int .u32 0), (.int .u32 0)]], 5, 60, true⟩)]) (by kernel_rfl) get_here) (r_load1 rfl rfl rfl rfl rfl get_here rfl rfl) ?_
  refine PQ.pure (dst := (some 61)) (v := (.int .i64 3)) rfl rfl rfl noStore (none_ok _ _) rfl ?_
  refine PQ.pure (dst := (some 62)) (v := (.pointer (some ⟨(n1 + 1), 0, some 3⟩))) rfl rfl rfl noStore (none_ok _ _) (r_iaA (l := 3) rfl rfl rfl rfl rfl rfl (by omega) (by omega) (by show 0 + 3 * 1 = 3; omega)) ?_
  refine PQ.pure (dst := (some 63)) (v := (W (rd (wd s) h i).d)) rfl rfl rfl (app [((n1 + 1), some ⟨[[(W (rd (wd s) h i).a), (W (rd (wd s) h i).b), (W (rd (wd s) h i).c), (W (rd (wd s) h i).d), (W (rd (wd s) h i).e)]], 5, 60, true⟩)] noStore) (seen_one (V := []) (D := [(n, some ⟨[[(W (h.a + (rd (wd s) h i).a)), (W (h.b + (rd (wd s) h i).b)), (W (h.c + (rd (wd s) h i).c)), (W h.d), (W h.e)]], 5, 60, true⟩), (n, some ⟨[[(W (h.a + (rd (wd s) h i).a)), (W (h.b + (rd (wd s) h i).b)), (W h.c), (W h.d), (W h.e)]], 5, 60, true⟩), ((n1 + 1), some ⟨[[(W (rd (wd s) h i).a), (W (rd (wd s) h i).b), (W (rd (wd s) h i).c), (W (rd (wd s) h i).d), (W (rd (wd s) h i).e)]], 5, 60, true⟩), (n1, some ⟨[(((List.range 80).map (wd s)).map W)], 80, 79, true⟩), ((n + 1), some ⟨[[(.int .u32 0), (.int .u32 0), (.int .u32 0), (.int .u32 0), (.int .u32 0)]], 5, 60, true⟩)]) (by kernel_rfl) (gt2 (by omega) get_here)) (r_load1 rfl rfl rfl rfl rfl get_here rfl rfl) ?_
  refine PQ.pure (dst := (some 64)) (v := (W (h.d + (rd (wd s) h i).d))) rfl rfl rfl noStore (none_ok _ _) (r_bin rfl rfl rfl (b_addW h.d (rd (wd s) h i).d)) ?_
  refine PQ.pure (dst := (some 65)) (v := (.pointer (some ⟨n, 0, some 3⟩))) rfl rfl rfl noStore (none_ok _ _) (r_iaA (l := 3) rfl rfl rfl rfl rfl rfl (by omega) (by omega) (by show 0 + 3 * 1 = 3; omega)) ?_
  refine PQ.op (dst := none) (v := (.tuple #[])) (n1 := n2) (d1 := [(n, some ⟨[[(W (h.a + (rd (wd s) h i).a)), (W (h.b + (rd (wd s) h i).b)), (W (h.c + (rd (wd s) h i).c)), (W (h.d + (rd (wd s) h i).d)), (W h.e)]], 5, 60, true⟩)]) rfl rfl rfl _ (seen_any (V := []) (D := [(n, some ⟨[[(W (h.a + (rd (wd s) h i).a)), (W (h.b + (rd (wd s) h i).b)), (W (h.c + (rd (wd s) h i).c)), (W h.d), (W h.e)]], 5, 60, true⟩), (n, some ⟨[[(W (h.a + (rd (wd s) h i).a)), (W (h.b + (rd (wd s) h i).b)), (W h.c), (W h.d), (W h.e)]], 5, 60, true⟩), ((n1 + 1), some ⟨[[(W (rd (wd s) h i).a), (W (rd (wd s) h i).b), (W (rd (wd s) h i).c), (W (rd (wd s) h i).d), (W (rd (wd s) h i).e)]], 5, 60, true⟩), (n1, some ⟨[(((List.range 80).map (wd s)).map W)], 80, 79, true⟩), ((n + 1), some ⟨[[(.int .u32 0), (.int .u32 0), (.int .u32 0), (.int .u32 0), (.int .u32 0)]], 5, 60, true⟩)]) (by kernel_rfl)) (r_store rfl rfl rfl rfl rfl rfl rfl get_here rfl rfl (Nat.le_of_ble_eq_true rfl) rfl) (by omega) (kp1 (wr_tight (by kernel_rfl) (by omega))) ?_
  refine PQ.done (d := [(n, some ⟨[[(W (h.a + (rd (wd s) h i).a)), (W (h.b + (rd (wd s) h i).b)), (W (h.c + (rd (wd s) h i).c)), (W (h.d + (rd (wd s) h i).d)), (W h.e)]], 5, 60, true⟩)]) (by kernel_rfl) ?_
  intro _
  refine RA.weaken (D' := [(n, some ⟨[[(W (h.a + (rd (wd s) h i).a)), (W (h.b + (rd (wd s) h i).b)), (W (h.c + (rd (wd s) h i).c)), (W (h.d + (rd (wd s) h i).d)), (W h.e)]], 5, 60, true⟩), ((n1 + 1), some ⟨[[(W (rd (wd s) h i).a), (W (rd (wd s) h i).b), (W (rd (wd s) h i).c), (W (rd (wd s) h i).d), (W (rd (wd s) h i).e)]], 5, 60, true⟩), (n1, some ⟨[(((List.range 80).map (wd s)).map W)], 80, 79, true⟩), ((n + 1), some ⟨[[(.int .u32 0), (.int .u32 0), (.int .u32 0), (.int .u32 0), (.int .u32 0)]], 5, 60, true⟩)]) hd (Less.of (fac (mm (fun _ => get_here) (fun _ => get_here)) (fac (mm (fun _ => (get_there (by omega) get_here)) (fun _ => (gt3 (by omega) get_here))) (fac (mm (fun _ => (gt2 (by omega) get_here)) (fun _ => (gt4 (by omega) get_here))) (fac (mm (fun _ => (gt3 (by omega) get_here)) (fun _ => (gt5 (by omega) get_here))) fan)))) (gone_of (by simp only [goneP, memP, List.cons_append, List.nil_append, true_or, or_true, true_and, and_true, or_false] <;> omega))) ?_
  refine RA.rebase [(2, (.pointer (some ⟨n, 0, some 0⟩))), (4, (.pointer (some ⟨(n + 1), 0, some 0⟩))), (5, (.pointer (some ⟨n1, 0, some 0⟩))), (6, (.pointer (some ⟨(n1 + 1), 0, some 0⟩))), (11, (.int .i64 3)), (15, (.int .i64 ((i : Nat) : Int))), (16, (.bool false)), (55, (.int .i64 3)), (56, (.bool true))] ⟨rfl, rfl, rfl, rfl, rfl, rfl, rfl, rfl, rfl, trivial⟩ (fun τr8 => ?_)
  refine RA.region env_ok ?_
  refine OA.p (some 66) (.int .i64 4) rfl rfl rfl (r_bin rfl rfl rfl (b_add (i64_eq (by omega)))) ?_
  refine OA.p (some 55) (.int .i64 4) rfl rfl rfl rfl ?_
  refine OA.nil ?_
  intro _
  refine RA.unroll hd ?_
  refine RA.seq hd ?_
  refine RA.region env_ok ?_
  refine OA.p (some 56) (.bool true) rfl rfl rfl (r_bin rfl rfl rfl (b_lss rfl)) ?_
  refine OA.nil ?_
  intro _
  refine RA.seq hd ?_
  refine RA.condT rfl ?_
  refine RA.skip env_ok ?_
  intro _
  refine RA.seq hd ?_
  refine RA.block ?_
  refine RA.seq hd ?_
  refine RA.region env_ok ?_
  refine OA.p (some 57) (.int .i64 4) rfl rfl rfl rfl ?_
  refine OA.p (some 11) (.int .i64 4) rfl rfl rfl rfl ?_
  refine OA.nil ?_
  intro _
  refine RA.par (md := [some [], some [], some [n], some [], some [], some [(n1 + 1)], some [], some [], none]) env_ok (hd.of (by omega) (kb4 (by omega))) (by kernel_rfl) ?_
  refine PQ.pure (dst := (some 58)) (v := (.int .i64 4)) rfl rfl rfl noStore (none_ok _ _) rfl ?_
  refine PQ.pure (dst := (some 59)) (v := (.pointer (some ⟨n, 0, some 4⟩))) rfl rfl rfl noStore (none_ok _ _) (r_iaA (l := 4) rfl rfl rfl rfl rfl rfl (by omega) (by omega) (by show 0 + 4 * 1 = 4; omega)) ?_
  refine PQ.pure (dst := (some 60)) (v := (W h.e)) rfl rfl rfl (app [(n, some ⟨[[(W (h.a + (rd (wd s) h i).a)), (W (h.b + (rd (wd s) h i).b)), (W (h.c + (rd (wd s) h i).c)), (W (h.d + (rd (wd s) h i).d)), (W h.e)]], 5, 60, true⟩)] noStore) (seen_one (V := []) (D := [(n, some ⟨[[(W (h.a + (rd (wd s) h i).a)), (W (h.b + (rd (wd s) h i).b)), (W (h.c + (rd (wd s) h i).c)), (W (h.d + (rd (wd s) h i).d)), (W h.e)]], 5, 60, true⟩), ((n1 + 1), some ⟨[[(W (rd (wd s) h i).a), (W (rd (wd s) h i).b), (W (rd (wd s) h i).c), (W (rd (wd s) h i).d), (W (rd (wd s) h i).e)]], 5, 60, true⟩), (n1, some ⟨[(((List.range 80).map (wd s)).map W)], 80, 79, true⟩), ((n + 1), some ⟨[[(.int .u32 0), (.int .u32 0), (.int .u32 0), (.int .u32 0), (.int .u32 0)]], 5, 60, true⟩)]) (by kernel_rfl) get_here) (r_load1 rfl rfl rfl rfl rfl get_here rfl rfl) ?_
  refine PQ.pure (dst := (some 61)) (v := (.int .i64 4)) rfl rfl rfl noStore (none_ok _ _) rfl ?_
  refine PQ.pure (dst := (some 62)) (v := (.pointer (some ⟨(n1 + 1), 0, some 4⟩))) rfl rfl rfl noStore (none_ok _ _) (r_iaA (l := 4) rfl rfl rfl rfl rfl rfl (by omega) (by omega) (by show 0 + 4 * 1 = 4; omega)) ?_
  refine PQ.pure (dst := (some 63)) (v := (W (rd (wd s) h i).e)) rfl rfl rfl (app [((n1 + 1), some ⟨[[(W (rd (wd s) h i).a), (W (rd (wd s) h i).b), (W (rd (wd s) h i).c), (W (rd (wd s) h i).d), (W (rd (wd s) h i).e)]], 5, 60, true⟩)] noStore) (seen_one (V := []) (D := [(n, some ⟨[[(W (h.a + (rd (wd s) h i).a)), (W (h.b + (rd (wd s) h i).b)), (W (h.c + (rd (wd s) h i).c)), (W (h.d + (rd (wd s) h i).d)), (W h.e)]], 5, 60, true⟩), ((n1 + 1), some ⟨[[(W (rd (wd s) h i).a), (W (rd (wd s) h i).b), (W (rd (wd s) h i).c), (W (rd (wd s) h i).d), (W (rd (wd s) h i).e)]], 5, 60, true⟩), (n1, some ⟨[(((List.range 80).map (wd s)).map W)], 80, 79, true⟩), ((n + 1), some ⟨[[(.int .u32 0), (.int .u32 0), (.int .u32 0), (.int .u32 0), (.int .u32 0)]], 5, 60, true⟩)]) (by kernel_rfl) (get_there (by omega) get_here)) (r_load1 rfl rfl rfl rfl rfl get_here rfl rfl) ?_
  refine PQ.pure (dst := (some 64)) (v := (W (h.e + (rd (wd s) h i).e))) rfl rfl rfl noStore (none_ok _ _) (r_bin rfl rfl rfl (b_addW h.e (rd (wd s) h i).e)) ?_
  refine PQ.pure (dst := (some 65)) (v := (.pointer (some ⟨n, 0, some 4⟩))) rfl rfl rfl noStore (none_ok _ _) (r_iaA (l := 4) rfl rfl rfl rfl rfl rfl (by omega) (by omega) (by show 0 + 4 * 1 = 4; omega)) ?_
  refine PQ.op (dst := none) (v := (.tuple #[])) (n1 := n2) (d1 := [(n, some ⟨[[(W (h.a + (rd (wd s) h i).a)), (W (h.b + (rd (wd s) h i).b)), (W (h.c + (rd (wd s) h i).c)), (W (h.d + (rd (wd s) h i).d)), (W (h.e + (rd (wd s) h i).e))]], 5, 60, true⟩)]) rfl rfl rfl _ (seen_any (V := []) (D := [(n, some ⟨[[(W (h.a + (rd (wd s) h i).a)), (W (h.b + (rd (wd s) h i).b)), (W (h.c + (rd (wd s) h i).c)), (W (h.d + (rd (wd s) h i).d)), (W h.e)]], 5, 60, true⟩), ((n1 + 1), some ⟨[[(W (rd (wd s) h i).a), (W (rd (wd s) h i).b), (W (rd (wd s) h i).c), (W (rd (wd s) h i).d), (W (rd (wd s) h i).e)]], 5, 60, true⟩), (n1, some ⟨[(((List.range 80).map (wd s)).map W)], 80, 79, true⟩), ((n + 1), some ⟨[[(.int .u32 0), (.int .u32 0), (.int .u32 0), (.int .u32 0), (.int .u32 0)]], 5, 60, true⟩)]) (by kernel_rfl)) (r_store rfl rfl rfl rfl rfl rfl rfl get_here rfl rfl (Nat.le_of_ble_eq_true rfl) rfl) (by omega) (kp1 (wr_tight (by kernel_rfl) (by omega))) ?_
  refine PQ.done (d := [(n, some ⟨[[(W (h.a + (rd (wd s) h i).a)), (W (h.b + (rd (wd s) h i).b)), (W (h.c + (rd (wd s) h i).c)), (W (h.d + (rd (wd s) h i).d)), (W (h.e + (rd (wd s) h i).e))]], 5, 60, true⟩)]) (by kernel_rfl) ?_
  intro _
  refine RA.weaken (D' := [(n, some ⟨[[(W (h.a + (rd (wd s) h i).a)), (W (h.b + (rd (wd s) h i).b)), (W (h.c + (rd (wd s) h i).c)), (W (h.d + (rd (wd s) h i).d)), (W (h.e + (rd (wd s) h i).e))]], 5, 60, true⟩), ((n1 + 1), some ⟨[[(W (rd (wd s) h i).a), (W (rd (wd s) h i).b), (W (rd (wd s) h i).c), (W (rd (wd s) h i).d), (W (rd (wd s) h i).e)]], 5, 60, true⟩), (n1, some ⟨[(((List.range 80).map (wd s)).map W)], 80, 79, true⟩), ((n + 1), some ⟨[[(.int .u32 0), (.int .u32 0), (.int .u32 0), (.int .u32 0), (.int .u32 0)]], 5, 60, true⟩)]) hd (Less.of (fac (mm (fun _ => get_here) (fun _ => get_here)) (fac (mm (fun _ => (get_there (by omega) get_here)) (fun _ => (gt2 (by omega) get_here))) (fac (mm (fun _ => (gt2 (by omega) get_here)) (fun _ => (gt3 (by omega) get_here))) (fac (mm (fun _ => (gt3 (by omega) get_here)) (fun _ => (gt4 (by omega) get_here))) fan)))) (gone_of (by simp only [goneP, memP, List.cons_append, List.nil_append, true_or, or_true, true_and, and_true, or_false] <;> omega))) ?_
  refine RA.region env_ok ?_
  refine OA.p (some 66) (.int .i64 5) rfl rfl rfl (r_bin rfl rfl rfl (b_add (i64_eq (by omega)))) ?_
  refine OA.p (some 55) (.int .i64 5) rfl rfl rfl rfl ?_
  refine OA.nil ?_
  intro _
  refine RA.unroll hd ?_
  refine RA.seq hd ?_
  refine RA.region env_ok ?_
  refine OA.p (some 56) (.bool false) rfl rfl rfl (r_bin rfl rfl rfl (b_lss rfl)) ?_
  refine OA.nil ?_
  intro _
  refine RA.seq hd ?_
  refine RA.condF rfl ?_
  refine RA.exit env_ok ?_
  intro _
  refine RA.seq hd ?_
  refine RA.region env_ok ?_
  refine OA.p (some 67) (.agg ⟨[(W (h.a + (rd (wd s) h i).a)), (W (h.b + (rd (wd s) h i).b)), (W (h.c + (rd (wd s) h i).c)), (W (h.d + (rd (wd s) h i).d)), (W (h.e + (rd (wd s) h i).e))]⟩) rfl rfl rfl (r_loadA rfl rfl rfl rfl get_here rfl rfl rfl) ?_
  refine OA.op1 (dst := none) (v := (.tuple #[])) (n1 := n2) (w := ((n + 1), some ⟨[[(W (h.a + (rd (wd s) h i).a)), (W (h.b + (rd (wd s) h i).b)), (W (h.c + (rd (wd s) h i).c)), (W (h.d + (rd (wd s) h i).d)), (W (h.e + (rd (wd s) h i).e))]], 5, 60, true⟩)) rfl rfl rfl (r_store rfl rfl rfl rfl rfl rfl rfl (gt3 (by omega) get_here) rfl rfl (Nat.le_of_ble_eq_true rfl) rfl) (by omega) ?_
  refine OA.nil ?_
  intro _
  refine RA.weaken (D' := [((n + 1), some ⟨[[(W (h.a + (rd (wd s) h i).a)), (W (h.b + (rd (wd s) h i).b)), (W (h.c + (rd (wd s) h i).c)), (W (h.d + (rd (wd s) h i).d)), (W (h.e + (rd (wd s) h i).e))]], 5, 60, true⟩), (n, some ⟨[[(W (h.a + (rd (wd s) h i).a)), (W (h.b + (rd (wd s) h i).b)), (W (h.c + (rd (wd s) h i).c)), (W (h.d + (rd (wd s) h i).d)), (W (h.e + (rd (wd s) h i).e))]], 5, 60, true⟩), ((n1 + 1), some ⟨[[(W (rd (wd s) h i).a), (W (rd (wd s) h i).b), (W (rd (wd s) h i).c), (W (rd (wd s) h i).d), (W (rd (wd s) h i).e)]], 5, 60, true⟩), (n1, some ⟨[(((List.range 80).map (wd s)).map W)], 80, 79, true⟩)]) hd (Less.of (fac (mm (fun _ => get_here) (fun _ => get_here)) (fac (mm (fun _ => (get_there (by omega) get_here)) (fun _ => (get_there (by omega) get_here))) (fac (mm (fun _ => (gt2 (by omega) get_here)) (fun _ => (gt2 (by omega) get_here))) (fac (mm (fun _ => (gt3 (by omega) get_here)) (fun _ => (gt3 (by omega) get_here))) fan)))) (gone_of (by simp only [goneP, memP, List.cons_append, List.nil_append, true_or, or_true, true_and, and_true, or_false] <;> omega))) ?_
  refine RA.ret env_ok ?_
  refine ⟨.inr rfl, [(.agg ⟨[(W (h.a + (rd (wd s) h i).a)), (W (h.b + (rd (wd s) h i).b)), (W (h.c + (rd (wd s) h i).c)), (W (h.d + (rd (wd s) h i).d)), (W (h.e + (rd (wd s) h i).e))]⟩)], (resL_cons (res_cellA rfl rfl rfl get_here rfl rfl rfl) resL_nil), (by rw [show i = 80 from (by omega)]; rfl), (kc4 (by omega))⟩

theorem s39t {σ : Store} (t : ByteArray) (j : Nat) (h : 64 * j + 64 ≤ t.size) : PS Try.prog noDen 39 [(.agg ⟨[(W (hs t j).a), (W (hs t j).b), (W (hs t j).c), (W (hs t j).d), (W (hs t j).e)]⟩), (.string ((t.extract (64 * j) t.size).extract 0 64))] σ (.agg ⟨[(W (hs t (j + 1)).a), (W (hs t (j + 1)).b), (W (hs t (j + 1)).c), (W (hs t (j + 1)).d), (W (hs t (j + 1)).e)]⟩) := by
  have h1 := s39 (σ := σ) (hs t j) ((t.extract (64 * j) t.size).extract 0 64) (by rw [size_cut _ _ _ (by rw [size_cut _ _ _ (Nat.le_refl _)]; omega)])
  rw [show blk (hs t j) ((t.extract (64 * j) t.size).extract 0 64) = hs t (j + 1) from by rw [ext_ext2 _ _ _ h, hs]] at h1
  exact h1

theorem s40 {σ : Store} (x : BitVec 32)   : PS Try.prog noDen 40 [(W x)] σ (.string (bstr (be4 x))) := by
 refine PS.body (E := env) env_ok rfl rfl (by show _ ≤ _; exact of_decide_eq_true (by kernel_rfl)) (fun n hd => ?_)
 refine RA.seq hd ?_
 refine RA.region env_ok ?_
 refine OA.p (some 2) (.string (ByteArray.mk #[])) rfl rfl rfl rfl ?_
 refine OA.nil ?_
 intro _
 refine RA.seq hd ?_
 refine RA.region env_ok ?_
 refine OA.p (some 3) (W x) rfl rfl rfl rfl ?_
 refine OA.p (some 4) (W (x >>> 24)) rfl rfl rfl (r_bin rfl rfl rfl (b_shrW _ (s := 24) (by omega))) ?_
 refine OA.p (some 5) (.int .u8 (((UInt8.ofNat ((x >>> 24)).toNat).toNat : Nat) : Int)) rfl rfl rfl (r_cvt rfl rfl rfl rfl rfl ⟨_, rfl⟩ (wrap_u8n _)) ?_
 refine OA.p (some 6) (W x) rfl rfl rfl rfl ?_
 refine OA.p (some 7) (W (x >>> 16)) rfl rfl rfl (r_bin rfl rfl rfl (b_shrW _ (s := 16) (by omega))) ?_
 refine OA.p (some 8) (.int .u8 (((UInt8.ofNat ((x >>> 16)).toNat).toNat : Nat) : Int)) rfl rfl rfl (r_cvt rfl rfl rfl rfl rfl ⟨_, rfl⟩ (wrap_u8n _)) ?_
 refine OA.p (some 9) (W x) rfl rfl rfl rfl ?_
 refine OA.p (some 10) (W (x >>> 8)) rfl rfl rfl (r_bin rfl rfl rfl (b_shrW _ (s := 8) (by omega))) ?_
 refine OA.p (some 11) (.int .u8 (((UInt8.ofNat ((x >>> 8)).toNat).toNat : Nat) : Int)) rfl rfl rfl (r_cvt rfl rfl rfl rfl rfl ⟨_, rfl⟩ (wrap_u8n _)) ?_
 refine OA.p (some 12) (W x) rfl rfl rfl rfl ?_
 refine OA.p (some 13) (.int .u8 (((UInt8.ofNat (x).toNat).toNat : Nat) : Int)) rfl rfl rfl (r_cvt rfl rfl rfl rfl rfl ⟨_, rfl⟩ (wrap_u8n _)) ?_
 refine OA.op1 (dst := (some 14)) (v := (.slice (some ⟨n, 0, none⟩) 4 0)) (n1 := (n + 1)) (w := (n, some ⟨(bc [(UInt8.ofNat ((x >>> 24)).toNat), (UInt8.ofNat ((x >>> 16)).toNat), (UInt8.ofNat ((x >>> 8)).toNat), (UInt8.ofNat (x).toNat)]), 1, 5, true⟩)) rfl rfl rfl (by kernel_rfl) (by omega) ?_
 refine OA.p (some 15) (.string (bstr (([(UInt8.ofNat ((x >>> 24)).toNat), (UInt8.ofNat ((x >>> 16)).toNat), (UInt8.ofNat ((x >>> 8)).toNat), (UInt8.ofNat (x).toNat)].drop 0).take 4))) rfl rfl rfl (r_b2s rfl rfl rfl rfl rfl rfl rfl rfl get_here (by rw [show ([(UInt8.ofNat ((x >>> 24)).toNat), (UInt8.ofNat ((x >>> 16)).toNat), (UInt8.ofNat ((x >>> 8)).toNat), (UInt8.ofNat (x).toNat)] : List UInt8).length = 4 from rfl]; omega)) ?_
 refine OA.p (some 2) (.string (bstr (([(UInt8.ofNat ((x >>> 24)).toNat), (UInt8.ofNat ((x >>> 16)).toNat), (UInt8.ofNat ((x >>> 8)).toNat), (UInt8.ofNat (x).toNat)].drop 0).take 4))) rfl rfl rfl rfl ?_
 refine OA.nil ?_
 intro _
 refine RA.ret env_ok ?_
 refine ⟨.inr rfl, [(.string (bstr (([(UInt8.ofNat ((x >>> 24)).toNat), (UInt8.ofNat ((x >>> 16)).toNat), (UInt8.ofNat ((x >>> 8)).toNat), (UInt8.ofNat (x).toNat)].drop 0).take 4)))], (resL_cons rfl resL_nil), rfl, (kc1 (by omega))⟩

theorem s38 {σ : Store} (m : Nat) (hm : m < 18446744073709551616)   : PS Try.prog noDen 38 [(.int .u64 ((m : Nat) : Int))] σ (.string (bstr (be8 m))) := by
 refine PS.body (E := env) env_ok rfl rfl (by show _ ≤ _; exact of_decide_eq_true (by kernel_rfl)) (fun n hd => ?_)
 refine RA.seq hd ?_
 refine RA.region env_ok ?_
 refine OA.p (some 2) (.string (ByteArray.mk #[])) rfl rfl rfl rfl ?_
 refine OA.nil ?_
 intro _
 refine RA.seq hd ?_
 refine RA.region env_ok ?_
 refine OA.p (some 3) (.int .u64 ((m : Nat) : Int)) rfl rfl rfl rfl ?_
 refine OA.p (some 4) (.int .u64 (((m / 4294967296) : Nat) : Int)) rfl rfl rfl (r_bin rfl rfl rfl (b_shrN (a := m) (c := 32) (D := 4294967296) (by decide))) ?_
 refine OA.p (some 5) (W (BitVec.ofNat 32 (m / 4294967296))) rfl rfl rfl (r_cvt rfl rfl rfl rfl rfl ⟨_, rfl⟩ (wrap_ofNat32 _)) ?_
 refine OA.callP (dst := (some 6)) (all := [(W (BitVec.ofNat 32 (m / 4294967296)))]) (v := (.string (bstr (be4 (BitVec.ofNat 32 (m / 4294967296)))))) (hd.up (by omega)) rfl rfl rfl rfl rfl rfl rfl rfl (s40 _) ?_
 intro n1 hn1
 refine OA.p (some 7) (.int .u64 ((m : Nat) : Int)) rfl rfl rfl rfl ?_
 refine OA.p (some 8) (W (BitVec.ofNat 32 m)) rfl rfl rfl (r_cvt rfl rfl rfl rfl rfl ⟨_, rfl⟩ (wrap_ofNat32 _)) ?_
 refine OA.callP (dst := (some 9)) (all := [(W (BitVec.ofNat 32 m))]) (v := (.string (bstr (be4 (BitVec.ofNat 32 m))))) (hd.up (by omega)) rfl rfl rfl rfl rfl rfl rfl rfl (s40 _) ?_
 intro n2 hn2
 refine OA.p (some 10) (.string ((bstr (be4 (BitVec.ofNat 32 (m / 4294967296)))) ++ (bstr (be4 (BitVec.ofNat 32 m))))) rfl rfl rfl (r_cat rfl rfl rfl (by (try simp only [ByteArray.size_append, bstr_size, size_lit, List.size_toArray, List.length_cons, List.length_nil, List.length_take, List.length_drop, List.length_replicate, be4_len]); try omega)) ?_
 refine OA.p (some 2) (.string ((bstr (be4 (BitVec.ofNat 32 (m / 4294967296)))) ++ (bstr (be4 (BitVec.ofNat 32 m))))) rfl rfl rfl rfl ?_
 refine OA.nil ?_
 intro _
 refine RA.ret env_ok ?_
 refine ⟨.inr rfl, [(.string ((bstr (be4 (BitVec.ofNat 32 (m / 4294967296)))) ++ (bstr (be4 (BitVec.ofNat 32 m)))))], (resL_cons rfl resL_nil), (by rw [one, bstr_app]; rfl), (fun i hi => by cases hi)⟩
end Go.Proofs.Ytdnkhdkflemkeaa.Vt
