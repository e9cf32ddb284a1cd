/- Part 5 of the texts that prove AuthSigns: the abstract machine, its calculus, and walks through functions; joined by a program of this workplace. -/
import Derived.Test.YtdnkhdkflemkeaaZAuthSigns4
import Derived.KernelRfl
/- Dg6: walks through functions of the program, by the calculus; written by a program of this workplace. -/
namespace Go.Proofs.Ytdnkhdkflemkeaa.Vt
open Go Go.Proofs Go.Proofs.YtdnkhdkflemkeaaV
set_option maxRecDepth 100000
set_option linter.unusedVariables false
set_option linter.unusedSimpArgs false
set_option maxHeartbeats 8000000
def putL (m : Nat) : Nat → List UInt8
  | 0 => []
  | k + 1 => putL (m / 256) k ++ [UInt8.ofNat (m % 256)]
theorem putL_len : ∀ (k m : Nat), (putL m k).length = k
  | 0, _ => rfl
  | k + 1, m => by simp [putL, putL_len k]
theorem putL_4 (m : Nat) : putL m 4 = be4 (BitVec.ofNat 32 m) := by
  have h0 : UInt8.ofNat (m % 256) = UInt8.ofNat (BitVec.ofNat 32 m).toNat := by
    apply UInt8.toNat_inj.1
    rw [BitVec.toNat_ofNat]
    simp only [UInt8.toNat_ofNat']
    omega
  have h1 : UInt8.ofNat (m / 256 % 256) = UInt8.ofNat (BitVec.ofNat 32 m >>> 8).toNat := by
    apply UInt8.toNat_inj.1
    rw [BitVec.toNat_ushiftRight, Nat.shiftRight_eq_div_pow, BitVec.toNat_ofNat]
    simp only [UInt8.toNat_ofNat']
    omega
  have h2 : UInt8.ofNat (m / 65536 % 256) = UInt8.ofNat (BitVec.ofNat 32 m >>> 16).toNat := by
    apply UInt8.toNat_inj.1
    rw [BitVec.toNat_ushiftRight, Nat.shiftRight_eq_div_pow, BitVec.toNat_ofNat]
    simp only [UInt8.toNat_ofNat']
    omega
  have h3 : UInt8.ofNat (m / 16777216 % 256) = UInt8.ofNat (BitVec.ofNat 32 m >>> 24).toNat := by
    apply UInt8.toNat_inj.1
    rw [BitVec.toNat_ushiftRight, Nat.shiftRight_eq_div_pow, BitVec.toNat_ofNat]
    simp only [UInt8.toNat_ofNat']
    omega
  simp only [putL, be4, Nat.div_div_eq_div_mul, Nat.reduceMul]
  rw [h0, h1, h2, h3]
  rfl
theorem putL_8 (m : Nat) : putL m 8 = be8 m := by
  have : putL m 8 = putL (m / 4294967296) 4 ++ putL m 4 := by
    simp only [putL, List.nil_append, List.append_assoc, List.cons_append, Nat.div_div_eq_div_mul]
  rw [this, putL_4, putL_4]; rfl
theorem s41z {σ : Store} (m : Nat)   : PS Try.prog noDen 41 [(.int .u64 ((m : Nat) : Int)), (.int .i64 0)] σ (.string (bstr (putL m 0))) := by
 refine PS.body (E := env) env_ok rfl rfl (by show _ ≤ _; exact of_decide_eq_true (by kernel_rfl)) (fun n hd => ?_)
 refine RA.sR hd env_ok <| OA.ps [(4, (.string (ByteArray.mk #[])))] rfl <| OA.nil fun _ => RA.seq hd <| RA.sR hd env_ok <| OA.ps [(5, (.int .i64 0))] rfl <| oP 6 yT rfl (r_bin rfl rfl rfl (b_leq rfl)) <| OA.nil fun _ => RA.condT rfl <| RA.sR hd env_ok <| OA.ps [(4, (.string (ByteArray.mk #[])))] rfl ?_
 refine OA.nil fun _ => ?_
 refine RA.ret env_ok ?_
 exact lf (.string (ByteArray.mk #[])) rfl
theorem s41 : ∀ (k m : Nat) (hm : m < 18446744073709551616) (hk : k ≤ 8) {σ : Store}, PS Try.prog noDen 41 [(.int .u64 ((m : Nat) : Int)), (.int .i64 ((k : Nat) : Int))] σ (.string (bstr (putL m k))) := by
  intro k
  induction k with
  | zero => intro m _ _ σ; exact s41z m
  | succ k ih =>
    intro m hm hk σ
    refine PS.body (E := env) env_ok rfl rfl (by show _ ≤ _; exact of_decide_eq_true (by kernel_rfl)) (fun n hd => ?_)
    refine RA.sR hd env_ok <| OA.ps [(4, (.string (ByteArray.mk #[])))] rfl <| OA.nil fun _ => RA.seq hd <| RA.sR hd env_ok <| OA.ps [(5, (.int .i64 (((k + 1) : Nat) : Int)))] rfl ?_
    have hc1 : ¬ ((((k + 1) : Nat) : Int) ≤ 0) := fun hdd => by exfalso; omega
    refine oP 6 yF rfl (Eq.trans (r_bin rfl rfl rfl (b_leq rfl)) (dF hc1)) <| OA.nil fun _ => RA.condF rfl <| RA.skip env_ok ?_
    intro _
    refine RA.seq hd <| RA.par (md := [some [], some [], some [], some [], some [], some [], some [], some [], some [], none, some [], some []]) env_ok (hd.up (by omega)) (by kernel_rfl) <| PQ.ps [(7, (.int .u64 ((m : Nat) : Int)))] rfl <| pP 8 (.int .u64 (((m / 256) : Nat) : Int)) rfl (r_bin rfl rfl rfl (b_quoN (a := m) (c := 256) (by decide) (u64_eq (by omega)))) <| PQ.ps [(9, (.int .i64 (((k + 1) : Nat) : Int)))] rfl <| pP 10 (.int .i64 ((((k + 1) - 1) : Nat) : Int)) rfl (r_bin rfl rfl rfl (b_sub (i64_eq (by omega)))) <| pC 11 rfl rfl (ih (m / 256) (by omega) (by omega)) fun n1 hn1 => PQ.ps [(12, (.int .u64 ((m : Nat) : Int)))] rfl <| pP 13 (.int .u64 (((m % 256) : Nat) : Int)) rfl (r_bin rfl rfl rfl (b_remN (a := m) (c := 256) (by decide))) <| pP 14 (.int .u8 (((UInt8.ofNat (m % 256)).toNat : Nat) : Int)) rfl (r_cvt rfl rfl rfl rfl rfl ⟨_, rfl⟩ (wrap_u8n _)) <| PQ.op (dst := (some 15)) (v := (.slice (some ⟨n1, 0, none⟩) 1 0)) (n1 := (n1 + 1)) (d1 := [(n1, some ⟨(bc [(UInt8.ofNat (m % 256))]), 1, 5, true⟩)]) rfl rfl rfl noStore nOK (by kernel_rfl) (by omega) (kp1 (wr_new (by omega) (by omega))) ?_
    refine PQ.pure (dst := (some 16)) (v := (.string (bstr (([(UInt8.ofNat (m % 256))].drop 0).take 1)))) rfl rfl rfl _ (sA (V := [(n1, some ⟨(bc [(UInt8.ofNat (m % 256))]), 1, 5, true⟩)]) (by kernel_rfl) (by kernel_rfl)) (r_b2s rfl rfl rfl rfl rfl rfl rfl rfl get_here (by rw [show ([(UInt8.ofNat (m % 256))] : List UInt8).length = 1 from rfl]; omega)) <| pP 17 (.string ((bstr (putL (m / 256) k)) ++ (bstr (([(UInt8.ofNat (m % 256))].drop 0).take 1)))) rfl (r_cat rfl rfl rfl (by (try simp only [ByteArray.size_append, bstr_size, size_lit, List.size_toArray, List.length_cons, List.length_nil, List.length_take, List.length_drop, List.length_replicate, putL_len]); try omega)) <| PQ.ps [(4, (.string ((bstr (putL (m / 256) k)) ++ (bstr (([(UInt8.ofNat (m % 256))].drop 0).take 1)))))] rfl <| PQ.done (d := [(n1, some ⟨(bc [(UInt8.ofNat (m % 256))]), 1, 5, true⟩)]) (by kernel_rfl) fun _ => ?_
    refine RA.ret env_ok ?_
    exact lf (.string ((bstr (putL (m / 256) k)) ++ (bstr (([(UInt8.ofNat (m % 256))].drop 0).take 1)))) (by rw [one, bstr_app]; rfl)
   
theorem s73 {σ : Store} (s : ByteArray) (k : Nat) (hk : k ≤ s.size)   : PS Try.prog noDen 73 [(.agg ⟨[(.string s), (.int .i64 0)]⟩), (.int .i64 ((k : Nat) : Int))] σ (.tuple #[.agg ⟨[.string (s.extract k s.size), .int .i64 0]⟩, .string (s.extract 0 k)]) := by
 refine PS.body (E := env) env_ok rfl rfl (by show _ ≤ _; exact of_decide_eq_true (by kernel_rfl)) (fun n hd => ?_)
 refine RA.sR hd env_ok <| o1 (some 2) (.pointer (some ⟨n, 0, some 0⟩)) (n + 1) (n, some ⟨[[(.string s), (.int .i64 0)]], 2, 85, true⟩) rfl <| o1 (some 4) (.pointer (some ⟨(n + 1), 0, some 0⟩)) (n + 2) ((n + 1), some ⟨[[(.string ByteArray.empty), (.int .i64 0)]], 2, 85, true⟩) rfl <| OA.ps [(5, (.string (ByteArray.mk #[])))] rfl <| OA.nil fun _ => RA.seq hd <| RA.sR hd env_ok <| OA.ps [(6, (.pointer (some ⟨n, 0, some 1⟩)))] rfl <| oL 7 (.int .i64 0) (get_there (by omega) get_here) <| oP 8 yF rfl (r_bin rfl rfl rfl (b_neq rfl)) <| OA.nil fun _ => ?_
 refine RA.condF rfl <| RA.skip env_ok ?_
 intro _
 refine RA.seq hd <| RA.sR hd env_ok <| OA.ps [(10, (.int .i64 ((k : Nat) : Int)))] rfl ?_
 have hc1 : ¬ (((k : Nat) : Int) < 0) := fun hdd => by exfalso; omega
 refine oP 11 yF rfl (Eq.trans (r_bin rfl rfl rfl (b_lss rfl)) (dF hc1)) <| OA.ps [(12, yF), (13, (.int .i64 ((k : Nat) : Int))), (14, (.pointer (some ⟨n, 0, some 0⟩)))] rfl <| oL 15 (.string s) (get_there (by omega) get_here) <| OA.ps [(16, (.int .i64 ((s.size : Nat) : Int)))] rfl ?_
 have hc2 : ¬ (((s.size : Nat) : Int) < ((k : Nat) : Int)) := fun hdd => by exfalso; omega
 refine oP 17 yF rfl (Eq.trans (r_bin rfl rfl rfl (b_gtr rfl)) (dF hc2)) <| OA.ps [(18, yF)] rfl <| OA.nil fun _ => RA.condF rfl <| RA.skip env_ok ?_
 intro _
 refine RA.seq hd <| RA.par (md := [some [], some [n], some [], some [], some [], some [], some [n], some [], some [], none, some []]) env_ok (hd.of (by omega) (kb2 (by omega))) (by kernel_rfl) <| PQ.ps [(21, (.pointer (some ⟨n, 0, some 0⟩)))] rfl <| pQl 22 (.string s) (get_there (by omega) get_here) <| PQ.ps [(23, (.int .i64 ((k : Nat) : Int)))] rfl <| pP 24 (.string (s.extract k s.size)) rfl (r_cut (a := k) (b := s.size) rfl rfl (fun _ => rfl) (fun _ => rfl) rfl rfl bound_nat rfl (by omega) (by omega) rfl) <| pP 25 (.agg ⟨[(.string (s.extract k s.size)), (.int .i64 0)]⟩) rfl (by kernel_rfl) <| PQ.ps [(26, (.pointer (some ⟨n, 0, some 0⟩)))] rfl <| pQl 27 (.string s) (get_there (by omega) get_here) <| PQ.ps [(28, (.int .i64 ((k : Nat) : Int)))] rfl <| pP 29 (.string (s.extract 0 k)) rfl (r_cut (a := 0) (b := k) rfl rfl (fun _ => rfl) (fun _ => rfl) rfl rfl rfl bound_nat (by omega) (by omega) rfl) ?_
 refine PQ.op (dst := none) (v := (.tuple #[])) (n1 := (n + 2)) (d1 := [((n + 1), some ⟨[[(.string (s.extract k s.size)), (.int .i64 0)]], 2, 85, true⟩)]) rfl rfl rfl _ (sA (V := []) (by kernel_rfl) (by kernel_rfl)) (rS get_here) (by omega) (kp1 (wr_old [5, 6, 7, 8] (by kernel_rfl) (by omega) (by omega) (fac (lo0 rfl) (fac (lo1 rfl (by omega)) (fac (lo0 rfl) (fac (lo0 rfl) fan)))))) <| PQ.ps [(5, (.string (s.extract 0 k)))] rfl <| PQ.done (d := [((n + 1), some ⟨[[(.string (s.extract k s.size)), (.int .i64 0)]], 2, 85, true⟩)]) (by kernel_rfl) fun _ => RA.rb [(0, (.agg ⟨[(.string s), (.int .i64 0)]⟩)), (1, (.int .i64 ((k : Nat) : Int))), (2, (.pointer (some ⟨n, 0, some 0⟩))), (4, (.pointer (some ⟨(n + 1), 0, some 0⟩))), (5, (.string (s.extract 0 k))), (8, yF), (18, yF)] rfl (fun τr1 => ?_)
 refine RA.ret env_ok ?_
 refine ⟨.inr rfl, [(.agg ⟨[(.string (s.extract k s.size)), (.int .i64 0)]⟩), (.string (s.extract 0 k))], (resL_cons (res_cellA rfl rfl rfl get_here rfl rfl rfl) (resL_cons rfl resL_nil)), rfl, (kc3 (by omega))⟩
theorem s58 {σ : Store} (s : ByteArray) (k : Nat) (hk : k ≤ s.size) (hk8 : k ≤ 8)   : PS Try.prog noDen 58 [(.agg ⟨[(.string s), (.int .i64 0)]⟩), (.int .i64 ((k : Nat) : Int))] σ (.tuple #[.agg ⟨[.string (s.extract k s.size), .int .i64 0]⟩, .int .u64 ((beN ((L s).take k) : Nat) : Int)]) := by
 refine PS.body (E := env) env_ok rfl rfl (by show _ ≤ _; exact of_decide_eq_true (by kernel_rfl)) (fun n hd => ?_)
 refine RA.sR hd env_ok <| o1 (some 2) (.pointer (some ⟨n, 0, some 0⟩)) (n + 1) (n, some ⟨[[(.string s), (.int .i64 0)]], 2, 85, true⟩) rfl <| o1 (some 4) (.pointer (some ⟨(n + 1), 0, some 0⟩)) (n + 2) ((n + 1), some ⟨[[(.string ByteArray.empty), (.int .i64 0)]], 2, 85, true⟩) rfl <| OA.ps [(5, (.int .u64 0))] rfl <| OA.nil fun _ => RA.sR hd env_ok <| oP 11 (.agg ⟨[(.string s), (.int .i64 0)]⟩) rfl (r_loadA rfl rfl rfl rfl (get_there (by omega) get_here) rfl rfl rfl) <| OA.ps [(12, (.int .i64 ((k : Nat) : Int)))] rfl <| oC 13 (hd.of (by omega) (kb2 (by omega))) rfl rfl (s73 s k hk) fun n1 hn1 => OA.ps [(10, (.tuple ⟨[(.agg ⟨[(.string (s.extract k s.size)), (.int .i64 0)]⟩), (.string (s.extract 0 k))]⟩)), (14, (.agg ⟨[(.string (s.extract k s.size)), (.int .i64 0)]⟩)), (15, (.string (s.extract 0 k)))] rfl <| o1 (some 6) (.pointer (some ⟨n1, 0, some 0⟩)) (n1 + 1) (n1, some ⟨[[(.string ByteArray.empty), (.int .i64 0)]], 2, 85, true⟩) rfl ?_
 refine o1 none yU (n1 + 1) (n1, some ⟨[[(.string (s.extract k s.size)), (.int .i64 0)]], 2, 85, true⟩) (rS get_here) <| OA.ps [(7, (.string (s.extract 0 k)))] rfl <| OA.nil fun _ => RA.sR hd env_ok <| OA.ps [(8, (.int .u64 0))] rfl <| OA.nil fun _ => RA.seq hd <| RA.sR hd env_ok <| OA.ps [(9, (.int .i64 0))] rfl <| OA.nil fun _ => RA.block ?_
 have hks : (s.extract 0 k).size = k := by rw [size_cut _ _ _ hk]; rfl
 refine RA.weaken hd (LsO (fA get_here get_here (fA (get_there (by omega) get_here) (gt2 (by omega) get_here) (fA (gt2 (by omega) get_here) (gt3 (by omega) get_here) fan)))) ?_
 refine RA.loop hd (fun kk_ τ n' D => ∃ i : Nat, ∃ m : Nat,  kk_ = (k - i) ∧ (n1 + 1) ≤ n' ∧ Has τ [(4, (.pointer (some ⟨(n + 1), 0, some 0⟩))), (6, (.pointer (some ⟨n1, 0, some 0⟩))), (7, (.string (s.extract 0 k))), (8, (.int .u64 ((m : Nat) : Int))), (9, (.int .i64 ((i : Nat) : Int)))] ∧ D = [(n1, some ⟨[[(.string (s.extract k s.size)), (.int .i64 0)]], 2, 85, true⟩), ((n + 1), some ⟨[[(.string ByteArray.empty), (.int .i64 0)]], 2, 85, true⟩), (n, some ⟨[[(.string s), (.int .i64 0)]], 2, 85, true⟩)] ∧ (∀ i ∈ keys D, i < n') ∧ i ≤ k ∧ m = beN ((L (s.extract 0 k)).take i) ∧ m < 256 ^ i) ((k - 0)) ⟨0, 0, rfl, by omega, ⟨rfl, rfl, rfl, rfl, rfl, trivial⟩, rfl, (kb3 (by omega)), ⟨by omega, rfl, by decide⟩⟩ ?_
 rintro kn2 τ2 n2 _ ⟨i, m, rfl, hn2, hHn2, rfl, hKn2, hIn2⟩
 rw [Has.eq hHn2]
 have hKn2_0 := kk0 hKn2
 have hKn2_1 := kk1 hKn2
 have hKn2_2 := kk2 hKn2
 simp only [keys, List.map, List.forall_mem_cons, List.mem_cons, List.not_mem_nil, false_imp_iff, implies_true, and_true] at hKn2
 obtain ⟨hi, hm, hb⟩ := hIn2
 have hb2 : i < k → m < 72057594037927936 := fun h => Nat.lt_of_lt_of_le hb (Nat.pow_le_pow_right (n := 256) (j := 7) (by decide) (by omega))
 refine RA.seq hd <| RA.sR hd env_ok <| OA.ps [(16, (.int .i64 ((i : Nat) : Int))), (17, (.string (s.extract 0 k))), (18, (.int .i64 (((s.extract 0 k).size : Nat) : Int)))] rfl ?_
 by_cases hc1 : ((i : Nat) : Int) < (((s.extract 0 k).size : Nat) : Int)
 ·
  refine oP 19 yT rfl (Eq.trans (r_bin rfl rfl rfl (b_lss rfl)) (dT hc1)) <| OA.nil fun _ => RA.condT rfl <| RA.skip env_ok ?_
  intro _
  refine RA.seq hd <| RA.block <| RA.region env_ok <| OA.ps [(22, (.int .u64 ((m : Nat) : Int)))] rfl <| oP 23 (.int .u64 (((m * 256) : Nat) : Int)) rfl (r_bin rfl rfl rfl (b_mul (u64_eq (by omega)))) <| OA.ps [(24, (.string (s.extract 0 k))), (25, (.int .i64 ((i : Nat) : Int)))] rfl <| oP 26 (.int .u8 (((s.extract 0 k).get! i).toNat : Nat)) rfl (r_idxS (l := i) rfl rfl rfl rfl rfl (by omega) (by omega)) <| oP 27 (.int .u64 ((((s.extract 0 k).get! i).toNat : Nat) : Int)) rfl (r_cvt rfl rfl rfl rfl rfl ⟨_, rfl⟩ (u64_eq (by have := UInt8.toNat_lt ((s.extract 0 k).get! i); omega))) <| oP 28 (.int .u64 (((m * 256 + ((s.extract 0 k).get! i).toNat) : Nat) : Int)) rfl (r_bin rfl rfl rfl (b_add (u64_eq (by have := UInt8.toNat_lt ((s.extract 0 k).get! i); omega)))) <| OA.ps [(8, (.int .u64 (((m * 256 + ((s.extract 0 k).get! i).toNat) : Nat) : Int)))] rfl <| OA.nil fun _ => ?_
  refine RA.region env_ok <| OA.ps [(20, (.int .i64 ((i : Nat) : Int)))] rfl <| oP 21 (.int .i64 (((i + 1) : Nat) : Int)) rfl (r_bin rfl rfl rfl (b_add (i64_eq (by omega)))) <| OA.ps [(9, (.int .i64 (((i + 1) : Nat) : Int)))] rfl <| OA.nil ?_
  refine ⟨(k - (i + 1)), by omega, [(n1, some ⟨[[(.string (s.extract k s.size)), (.int .i64 0)]], 2, 85, true⟩), ((n + 1), some ⟨[[(.string ByteArray.empty), (.int .i64 0)]], 2, 85, true⟩), (n, some ⟨[[(.string s), (.int .i64 0)]], 2, 85, true⟩)], (Less.refl _ _ _), (i + 1), (m * 256 + ((s.extract 0 k).get! i).toNat), rfl, by omega, ⟨rfl, rfl, rfl, rfl, rfl, trivial⟩, rfl, (kb3 (by omega)), ⟨by omega, by rw [beN_take _ _ (by omega), hm], by have := UInt8.toNat_lt ((s.extract 0 k).get! i); rw [Nat.pow_succ]; omega⟩⟩
 ·
  refine oP 19 yF rfl (Eq.trans (r_bin rfl rfl rfl (b_lss rfl)) (dF hc1)) <| OA.nil fun _ => RA.condF rfl ?_
  refine RA.exit env_ok ?_
  intro _
  refine RA.sR hd env_ok <| oP 29 (.agg ⟨[(.string (s.extract k s.size)), (.int .i64 0)]⟩) rfl (r_loadA rfl rfl rfl rfl get_here rfl rfl rfl) <| OA.ps [(30, (.int .u64 ((m : Nat) : Int)))] rfl <| o1 none yU n2 ((n + 1), some ⟨[[(.string (s.extract k s.size)), (.int .i64 0)]], 2, 85, true⟩) (rS (get_there (by omega) get_here)) <| OA.ps [(5, (.int .u64 ((m : Nat) : Int)))] rfl <| OA.nil fun _ => ?_
  refine RA.ret env_ok ?_
  refine ⟨.inr rfl, [(.agg ⟨[(.string (s.extract k s.size)), (.int .i64 0)]⟩), (.int .u64 ((m : Nat) : Int))], (resL_cons (res_cellA rfl rfl rfl get_here rfl rfl rfl) (resL_cons rfl resL_nil)), (by rw [hm, show i = k from by omega, List.take_of_length_le (by rw [L_len]; omega), L_extract, List.drop_zero]; rfl), (kc4 (by omega))⟩
end Go.Proofs.Ytdnkhdkflemkeaa.Vt
/- Dg7: walks through functions of the program, by the calculus; written by a program of this workplace. -/
namespace Go.Proofs.Ytdnkhdkflemkeaa.Vt
open Go Go.Proofs Go.Proofs.YtdnkhdkflemkeaaV
set_option maxRecDepth 100000
set_option linter.unusedVariables false
set_option linter.unusedSimpArgs false
set_option maxHeartbeats 8000000
theorem word_cut (s : ByteArray) (i : Nat) (h : 4 * i + 4 ≤ s.size) : BitVec.ofNat 32 (beN ((L (s.extract (4 * i) ((4 * i) + 4))).take 4)) = word s i := by
  rw [word, L_extract, List.take_take]
  congr 4
  omega
theorem rep_snoc (s : ByteArray) (z : Nat) : (s ++ bstr (List.replicate z 0)) ++ ⟨#[0]⟩ = s ++ bstr (List.replicate (z + 1) 0) := by
  apply L_ext
  rw [L_append, L_append, L_append, L_bstr, L_bstr, List.append_assoc, List.replicate_succ']
theorem rep_zero (s : ByteArray) : s = s ++ bstr (List.replicate 0 0) := by
  apply L_ext
  rw [L_append, L_bstr]
  exact (List.append_nil _).symm
theorem s42 {σ : Store} (h : H5) (s : ByteArray) (hs : s.size = 64)   : PS Try.prog noDen 42 [(.agg ⟨[(W h.a), (W h.b), (W h.c), (W h.d), (W h.e)]⟩), (.string s)] σ (.agg ⟨[W (blk h s).a, W (blk h s).b, W (blk h s).c, W (blk h s).d, W (blk h s).e]⟩) := by
 refine PS.body (E := env) env_ok rfl rfl (by show _ ≤ _; exact of_decide_eq_true (by kernel_rfl)) (fun n hd => ?_)
 refine RA.sR hd env_ok <| o1 (some 2) (.pointer (some ⟨n, 0, some 0⟩)) (n + 1) (n, some ⟨[[(W h.a), (W h.b), (W h.c), (W h.d), (W h.e)]], 5, 59, true⟩) rfl <| o1 (some 4) (.pointer (some ⟨(n + 1), 0, some 0⟩)) (n + 2) ((n + 1), some ⟨[[(.int .u32 0), (.int .u32 0), (.int .u32 0), (.int .u32 0), (.int .u32 0)]], 5, 59, true⟩) rfl <| OA.nil fun _ => RA.sR hd env_ok <| o1 (some 17) (.slice (some ⟨(n + 2), 0, none⟩) 80 0) (n + 3) ((n + 2), some ⟨((List.replicate 80 0#32).map WL), 1, 32, true⟩) (by kernel_rfl) <| OA.ps [(5, (.slice (some ⟨(n + 2), 0, none⟩) 80 0))] rfl <| OA.nil fun _ => RA.seq hd <| RA.sR hd env_ok <| OA.ps [(6, (.int .i64 0))] rfl ?_
 refine OA.nil fun _ => RA.block ?_
 refine RA.loop hd (fun kk_ τ n' D => ∃ i : Nat, ∃ ws : List (BitVec 32),  kk_ = (80 - i) ∧ (n + 3) ≤ n' ∧ Has τ [(1, (.string s)), (2, (.pointer (some ⟨n, 0, some 0⟩))), (4, (.pointer (some ⟨(n + 1), 0, some 0⟩))), (5, (.slice (some ⟨(n + 2), 0, none⟩) 80 0)), (6, (.int .i64 ((i : Nat) : Int)))] ∧ D = [((n + 2), some ⟨(ws.map WL), 1, 32, true⟩), ((n + 1), some ⟨[[(.int .u32 0), (.int .u32 0), (.int .u32 0), (.int .u32 0), (.int .u32 0)]], 5, 59, true⟩), (n, some ⟨[[(W h.a), (W h.b), (W h.c), (W h.d), (W h.e)]], 5, 59, true⟩)] ∧ (∀ i ∈ keys D, i < n') ∧ i ≤ 80 ∧ ws.length = 80 ∧ ∀ j, j < i → ws.getD j 0 = wd s j) ((80 - 0)) ⟨0, (List.replicate 80 0#32), rfl, by omega, ⟨rfl, rfl, rfl, rfl, rfl, trivial⟩, rfl, (kb3 (by omega)), ⟨by omega, List.length_replicate, fun j hj => by omega⟩⟩ ?_
 rintro kn1 τ1 n1 _ ⟨i, ws, rfl, hn1, hHn1, rfl, hKn1, hIn1⟩
 rw [Has.eq hHn1]
 have hKn1_0 := kk0 hKn1
 have hKn1_1 := kk1 hKn1
 have hKn1_2 := kk2 hKn1
 simp only [keys, List.map, List.forall_mem_cons, List.mem_cons, List.not_mem_nil, false_imp_iff, implies_true, and_true] at hKn1
 obtain ⟨hi, hl, hf⟩ := hIn1
 refine RA.seq hd <| RA.sR hd env_ok <| OA.ps [(18, (.int .i64 ((i : Nat) : Int)))] rfl ?_
 by_cases hc1 : ((i : Nat) : Int) < 80
 ·
  refine oP 19 yT rfl (Eq.trans (r_bin rfl rfl rfl (b_lss rfl)) (dT hc1)) <| OA.nil fun _ => RA.condT rfl <| RA.skip env_ok ?_
  intro _
  refine RA.seq hd <| RA.block <| RA.seq hd <| RA.sR hd env_ok <| OA.ps [(22, (.int .i64 ((i : Nat) : Int)))] rfl ?_
  by_cases hc2 : ((i : Nat) : Int) < 16
  ·
   refine oP 23 yT rfl (Eq.trans (r_bin rfl rfl rfl (b_lss rfl)) (dT hc2)) <| OA.nil fun _ => RA.condT rfl <| RA.sR hd env_ok <| OA.ps [(25, (.string s)), (26, (.int .i64 ((i : Nat) : Int)))] rfl <| oP 27 (.int .i64 (((4 * i) : Nat) : Int)) rfl (r_bin rfl rfl rfl (b_mul (i64_eq (by omega)))) <| OA.ps [(28, (.int .i64 ((i : Nat) : Int)))] rfl <| oP 29 (.int .i64 (((4 * i) : Nat) : Int)) rfl (r_bin rfl rfl rfl (b_mul (i64_eq (by omega)))) <| oP 30 (.int .i64 ((((4 * i) + 4) : Nat) : Int)) rfl (r_bin rfl rfl rfl (b_add (i64_eq (by omega)))) <| oP 31 (.string (s.extract (4 * i) ((4 * i) + 4))) rfl (r_cut (a := (4 * i)) (b := ((4 * i) + 4)) rfl rfl (fun _ => rfl) (fun _ => rfl) rfl rfl bound_nat bound_nat (by omega) (by omega) rfl) <| oP 32 (.agg ⟨[(.string (s.extract (4 * i) ((4 * i) + 4))), (.int .i64 0)]⟩) rfl (by kernel_rfl) ?_
   refine oC 33 (v := (.tuple ⟨[(.agg ⟨[(.string ((s.extract (4 * i) ((4 * i) + 4)).extract 4 (s.extract (4 * i) ((4 * i) + 4)).size)), (.int .i64 0)]⟩), (.int .u64 (((beN ((L (s.extract (4 * i) ((4 * i) + 4))).take 4)) : Nat) : Int))]⟩)) (hd.of (by omega) (kb3 (by omega))) rfl rfl (s58 (s.extract (4 * i) ((4 * i) + 4)) 4 (by rw [size_cut _ _ _ (by omega)]; omega) (by decide)) fun n2 hn2 => OA.ps [(24, (.tuple ⟨[(.agg ⟨[(.string ((s.extract (4 * i) ((4 * i) + 4)).extract 4 (s.extract (4 * i) ((4 * i) + 4)).size)), (.int .i64 0)]⟩), (.int .u64 (((beN ((L (s.extract (4 * i) ((4 * i) + 4))).take 4)) : Nat) : Int))]⟩)), (34, (.agg ⟨[(.string ((s.extract (4 * i) ((4 * i) + 4)).extract 4 (s.extract (4 * i) ((4 * i) + 4)).size)), (.int .i64 0)]⟩)), (35, (.int .u64 (((beN ((L (s.extract (4 * i) ((4 * i) + 4))).take 4)) : Nat) : Int)))] rfl <| o1 (some 7) (.pointer (some ⟨n2, 0, some 0⟩)) (n2 + 1) (n2, some ⟨[[(.string ByteArray.empty), (.int .i64 0)]], 2, 85, true⟩) rfl <| o1 none yU (n2 + 1) (n2, some ⟨[[(.string ((s.extract (4 * i) ((4 * i) + 4)).extract 4 (s.extract (4 * i) ((4 * i) + 4)).size)), (.int .i64 0)]], 2, 85, true⟩) (rS get_here) <| OA.ps [(8, (.int .u64 (((beN ((L (s.extract (4 * i) ((4 * i) + 4))).take 4)) : Nat) : Int)))] rfl <| OA.nil fun _ => RA.sR hd env_ok <| OA.ps [(36, (.slice (some ⟨(n + 2), 0, none⟩) 80 0)), (37, (.int .i64 ((i : Nat) : Int))), (38, (.int .u64 (((beN ((L (s.extract (4 * i) ((4 * i) + 4))).take 4)) : Nat) : Int)))] rfl <| oP 39 (W (BitVec.ofNat 32 (beN ((L (s.extract (4 * i) ((4 * i) + 4))).take 4)))) rfl (r_cvt rfl rfl rfl rfl rfl ⟨_, rfl⟩ (wrap_ofNat32 _)) <| oP 40 (.pointer (some ⟨(n + 2), i, some 0⟩)) rfl (r_iaS (l := i) rfl rfl rfl rfl rfl rfl (by omega) (by omega) (gt2 (by omega) get_here) rfl (by omega)) <| o1 none yU (n2 + 1) ((n + 2), some ⟨((ws.set i (BitVec.ofNat 32 (beN ((L (s.extract (4 * i) ((4 * i) + 4))).take 4)))).map WL), 1, 32, true⟩) (r_storeWL (X := (BitVec.ofNat 32 (beN ((L (s.extract (4 * i) ((4 * i) + 4))).take 4)))) rfl rfl rfl rfl rfl (gt2 (by omega) get_here) (by rw [hl]; omega)) ?_
   refine OA.nil fun _ => RA.rb [(1, (.string s)), (2, (.pointer (some ⟨n, 0, some 0⟩))), (4, (.pointer (some ⟨(n + 1), 0, some 0⟩))), (5, (.slice (some ⟨(n + 2), 0, none⟩) 80 0)), (6, (.int .i64 ((i : Nat) : Int))), (8, (.int .u64 (((beN ((L (s.extract (4 * i) ((4 * i) + 4))).take 4)) : Nat) : Int))), (19, yT), (23, yT)] rfl (fun τr3 => ?_)
   refine RA.exit env_ok ?_
   intro _
   refine RA.region env_ok <| OA.ps [(20, (.int .i64 ((i : Nat) : Int)))] rfl <| oP 21 (.int .i64 (((i + 1) : Nat) : Int)) rfl (r_bin rfl rfl rfl (b_add (i64_eq (by omega)))) <| OA.ps [(6, (.int .i64 (((i + 1) : Nat) : Int)))] rfl <| OA.nil ?_
   refine ⟨(80 - (i + 1)), by omega, [((n + 2), some ⟨((ws.set i (BitVec.ofNat 32 (beN ((L (s.extract (4 * i) ((4 * i) + 4))).take 4)))).map WL), 1, 32, true⟩), ((n + 1), some ⟨[[(.int .u32 0), (.int .u32 0), (.int .u32 0), (.int .u32 0), (.int .u32 0)]], 5, 59, true⟩), (n, some ⟨[[(W h.a), (W h.b), (W h.c), (W h.d), (W h.e)]], 5, 59, true⟩)], (LsO (fA get_here get_here (fA (get_there (by omega) get_here) (gt4 (by omega) get_here) (fA (gt2 (by omega) get_here) (gt5 (by omega) get_here) fan)))), (i + 1), (ws.set i (BitVec.ofNat 32 (beN ((L (s.extract (4 * i) ((4 * i) + 4))).take 4)))), rfl, by omega, ⟨rfl, rfl, rfl, rfl, rfl, trivial⟩, rfl, (kb3 (by omega)), ⟨by omega, by rw [List.length_set]; exact hl, fun j hj => (Nat.lt_or_ge j i).elim (fun h => by rw [lset_ne (by omega)]; exact hf j h) (fun h => by rw [show j = i from by omega, lset_self (by omega), wd_lo (by omega), word_cut _ _ (by omega)])⟩⟩
  ·
   refine oP 23 yF rfl (Eq.trans (r_bin rfl rfl rfl (b_lss rfl)) (dF hc2)) <| OA.nil fun _ => RA.condF rfl <| RA.skip env_ok ?_
   intro _
   refine RA.par (md := [some [], some [], some [], some [], some [], some [(n + 2)], some [(n + 2)], some [], some [], some [], some [(n + 2)], some [(n + 2)], some [], some [], some [], some [], some [(n + 2)], some [(n + 2)], some [], some [], some [], some [], some [(n + 2)], some [(n + 2)], some [], some [], some [(n + 2)], none]) env_ok (hd.of (by omega) (kb3 (by omega))) (by kernel_rfl) <| PQ.ps [(41, (.slice (some ⟨(n + 2), 0, none⟩) 80 0)), (42, (.int .i64 ((i : Nat) : Int))), (43, (.slice (some ⟨(n + 2), 0, none⟩) 80 0)), (44, (.int .i64 ((i : Nat) : Int)))] rfl <| pP 45 (.int .i64 (((i - 3) : Nat) : Int)) rfl (r_bin rfl rfl rfl (b_sub (i64_eq (by omega)))) <| pQL 46 (.pointer (some ⟨(n + 2), (i - 3), some 0⟩)) (V := []) rfl (by kernel_rfl) (by kernel_rfl) get_here (r_iaS (l := (i - 3)) rfl rfl rfl rfl rfl rfl (by omega) (by omega) get_here rfl (by omega)) <| pQL 47 (W (ws.getD (i - 3) 0)) (V := []) rfl (by kernel_rfl) (by kernel_rfl) get_here (r_loadWL rfl rfl rfl rfl rfl get_here (by rw [hl]; omega)) <| PQ.ps [(48, (.slice (some ⟨(n + 2), 0, none⟩) 80 0)), (49, (.int .i64 ((i : Nat) : Int)))] rfl <| pP 50 (.int .i64 (((i - 8) : Nat) : Int)) rfl (r_bin rfl rfl rfl (b_sub (i64_eq (by omega)))) <| pQL 51 (.pointer (some ⟨(n + 2), (i - 8), some 0⟩)) (V := []) rfl (by kernel_rfl) (by kernel_rfl) get_here (r_iaS (l := (i - 8)) rfl rfl rfl rfl rfl rfl (by omega) (by omega) get_here rfl (by omega)) <| pQL 52 (W (ws.getD (i - 8) 0)) (V := []) rfl (by kernel_rfl) (by kernel_rfl) get_here (r_loadWL rfl rfl rfl rfl rfl get_here (by rw [hl]; omega)) <| pP 53 (W ((ws.getD (i - 3) 0) ^^^ (ws.getD (i - 8) 0))) rfl (r_bin rfl rfl rfl (b_xorW (ws.getD (i - 3) 0) (ws.getD (i - 8) 0))) <| PQ.ps [(54, (.slice (some ⟨(n + 2), 0, none⟩) 80 0)), (55, (.int .i64 ((i : Nat) : Int)))] rfl ?_
   refine pP 56 (.int .i64 (((i - 14) : Nat) : Int)) rfl (r_bin rfl rfl rfl (b_sub (i64_eq (by omega)))) <| pQL 57 (.pointer (some ⟨(n + 2), (i - 14), some 0⟩)) (V := []) rfl (by kernel_rfl) (by kernel_rfl) get_here (r_iaS (l := (i - 14)) rfl rfl rfl rfl rfl rfl (by omega) (by omega) get_here rfl (by omega)) <| pQL 58 (W (ws.getD (i - 14) 0)) (V := []) rfl (by kernel_rfl) (by kernel_rfl) get_here (r_loadWL rfl rfl rfl rfl rfl get_here (by rw [hl]; omega)) <| pP 59 (W (((ws.getD (i - 3) 0) ^^^ (ws.getD (i - 8) 0)) ^^^ (ws.getD (i - 14) 0))) rfl (r_bin rfl rfl rfl (b_xorW ((ws.getD (i - 3) 0) ^^^ (ws.getD (i - 8) 0)) (ws.getD (i - 14) 0))) <| PQ.ps [(60, (.slice (some ⟨(n + 2), 0, none⟩) 80 0)), (61, (.int .i64 ((i : Nat) : Int)))] rfl <| pP 62 (.int .i64 (((i - 16) : Nat) : Int)) rfl (r_bin rfl rfl rfl (b_sub (i64_eq (by omega)))) <| pQL 63 (.pointer (some ⟨(n + 2), (i - 16), some 0⟩)) (V := []) rfl (by kernel_rfl) (by kernel_rfl) get_here (r_iaS (l := (i - 16)) rfl rfl rfl rfl rfl rfl (by omega) (by omega) get_here rfl (by omega)) <| pQL 64 (W (ws.getD (i - 16) 0)) (V := []) rfl (by kernel_rfl) (by kernel_rfl) get_here (r_loadWL rfl rfl rfl rfl rfl get_here (by rw [hl]; omega)) <| pP 65 (W ((((ws.getD (i - 3) 0) ^^^ (ws.getD (i - 8) 0)) ^^^ (ws.getD (i - 14) 0)) ^^^ (ws.getD (i - 16) 0))) rfl (r_bin rfl rfl rfl (b_xorW (((ws.getD (i - 3) 0) ^^^ (ws.getD (i - 8) 0)) ^^^ (ws.getD (i - 14) 0)) (ws.getD (i - 16) 0))) <| pC 66 (v := (W (rl ((((ws.getD (i - 3) 0) ^^^ (ws.getD (i - 8) 0)) ^^^ (ws.getD (i - 14) 0)) ^^^ (ws.getD (i - 16) 0)) 1))) rfl rfl (s59 _ 1 (by decide)) fun n4 hn4 => pQL 67 (.pointer (some ⟨(n + 2), i, some 0⟩)) (V := []) rfl (by kernel_rfl) (by kernel_rfl) get_here (r_iaS (l := i) rfl rfl rfl rfl rfl rfl (by omega) (by omega) get_here rfl (by omega)) ?_
   refine PQ.op (dst := none) (v := (.tuple #[])) (n1 := n4) (d1 := [((n + 2), some ⟨((ws.set i (rl ((((ws.getD (i - 3) 0) ^^^ (ws.getD (i - 8) 0)) ^^^ (ws.getD (i - 14) 0)) ^^^ (ws.getD (i - 16) 0)) 1)).map WL), 1, 32, true⟩)]) rfl rfl rfl _ (sA (V := []) (by kernel_rfl) (by kernel_rfl)) (r_storeWL (X := (rl ((((ws.getD (i - 3) 0) ^^^ (ws.getD (i - 8) 0)) ^^^ (ws.getD (i - 14) 0)) ^^^ (ws.getD (i - 16) 0)) 1)) rfl rfl rfl rfl rfl get_here (by rw [hl]; omega)) (by omega) (kp1 (wr_tight (by kernel_rfl) (by omega))) <| PQ.done (d := [((n + 2), some ⟨((ws.set i (rl ((((ws.getD (i - 3) 0) ^^^ (ws.getD (i - 8) 0)) ^^^ (ws.getD (i - 14) 0)) ^^^ (ws.getD (i - 16) 0)) 1)).map WL), 1, 32, true⟩)]) (by kernel_rfl) fun _ => RA.rb [(1, (.string s)), (2, (.pointer (some ⟨n, 0, some 0⟩))), (4, (.pointer (some ⟨(n + 1), 0, some 0⟩))), (5, (.slice (some ⟨(n + 2), 0, none⟩) 80 0)), (6, (.int .i64 ((i : Nat) : Int))), (19, yT), (23, yF)] rfl (fun τr5 => ?_)
   refine RA.region env_ok <| OA.ps [(20, (.int .i64 ((i : Nat) : Int)))] rfl <| oP 21 (.int .i64 (((i + 1) : Nat) : Int)) rfl (r_bin rfl rfl rfl (b_add (i64_eq (by omega)))) <| OA.ps [(6, (.int .i64 (((i + 1) : Nat) : Int)))] rfl <| OA.nil ?_
   refine ⟨(80 - (i + 1)), by omega, [((n + 2), some ⟨((ws.set i (rl ((((ws.getD (i - 3) 0) ^^^ (ws.getD (i - 8) 0)) ^^^ (ws.getD (i - 14) 0)) ^^^ (ws.getD (i - 16) 0)) 1)).map WL), 1, 32, true⟩), ((n + 1), some ⟨[[(.int .u32 0), (.int .u32 0), (.int .u32 0), (.int .u32 0), (.int .u32 0)]], 5, 59, true⟩), (n, some ⟨[[(W h.a), (W h.b), (W h.c), (W h.d), (W h.e)]], 5, 59, true⟩)], (LsO (fA get_here get_here (fA (get_there (by omega) get_here) (gt2 (by omega) get_here) (fA (gt2 (by omega) get_here) (gt3 (by omega) get_here) fan)))), (i + 1), (ws.set i (rl ((((ws.getD (i - 3) 0) ^^^ (ws.getD (i - 8) 0)) ^^^ (ws.getD (i - 14) 0)) ^^^ (ws.getD (i - 16) 0)) 1)), rfl, by omega, ⟨rfl, rfl, rfl, rfl, rfl, trivial⟩, rfl, (kb3 (by omega)), ⟨by omega, by rw [List.length_set]; exact hl, fun j hj => (Nat.lt_or_ge j i).elim (fun h => by rw [lset_ne (by omega)]; exact hf j h) (fun h => by rw [show j = i from by omega, lset_self (by omega), wd_hi (by omega), hf _ (by omega), hf _ (by omega), hf _ (by omega), hf _ (by omega)])⟩⟩
 ·
  refine oP 19 yF rfl (Eq.trans (r_bin rfl rfl rfl (b_lss rfl)) (dF hc1)) <| OA.nil fun _ => RA.condF rfl ?_
  refine RA.exit env_ok ?_
  intro _
  refine RA.seq hd <| RA.par (md := [some [], some [n], some [], some [n], some [], some [n], some [], some [n], some [], some [n], some [], some [], some [], some [], some []]) env_ok (hd.of (by omega) (kb3 (by omega))) (by kernel_rfl) <| pP 68 (.pointer (some ⟨n, 0, some 0⟩)) rfl (r_iaA (l := 0) rfl rfl rfl rfl rfl rfl (by omega) (by omega) (by show 0 + 0 * 1 = 0; omega)) <| pQl 69 (W h.a) (gt2 (by omega) get_here) <| pP 70 (.pointer (some ⟨n, 0, some 1⟩)) rfl (r_iaA (l := 1) rfl rfl rfl rfl rfl rfl (by omega) (by omega) (by show 0 + 1 * 1 = 1; omega)) <| pQl 71 (W h.b) (gt2 (by omega) get_here) <| pP 72 (.pointer (some ⟨n, 0, some 2⟩)) rfl (r_iaA (l := 2) rfl rfl rfl rfl rfl rfl (by omega) (by omega) (by show 0 + 2 * 1 = 2; omega)) <| pQl 73 (W h.c) (gt2 (by omega) get_here) <| pP 74 (.pointer (some ⟨n, 0, some 3⟩)) rfl (r_iaA (l := 3) rfl rfl rfl rfl rfl rfl (by omega) (by omega) (by show 0 + 3 * 1 = 3; omega)) <| pQl 75 (W h.d) (gt2 (by omega) get_here) <| pP 76 (.pointer (some ⟨n, 0, some 4⟩)) rfl (r_iaA (l := 4) rfl rfl rfl rfl rfl rfl (by omega) (by omega) (by show 0 + 4 * 1 = 4; omega)) ?_
  refine pQl 77 (W h.e) (gt2 (by omega) get_here) <| PQ.ps [(9, (W h.a)), (10, (W h.b)), (11, (W h.c)), (12, (W h.d)), (13, (W h.e))] rfl <| PQ.done (d := []) (by kernel_rfl) fun _ => RA.seq hd <| RA.sR hd env_ok <| OA.ps [(14, (.int .i64 0))] rfl <| OA.nil fun _ => RA.block ?_
  obtain rfl := list_of (d := 0#32) hl (fun j hj => hf j (by omega))
  refine RA.loop hd (fun kk_ τ n' D => ∃ i : Nat,  kk_ = (80 - i) ∧ n1 ≤ n' ∧ Has τ [(2, (.pointer (some ⟨n, 0, some 0⟩))), (4, (.pointer (some ⟨(n + 1), 0, some 0⟩))), (5, (.slice (some ⟨(n + 2), 0, none⟩) 80 0)), (9, (W (rd (wd s) h i).a)), (10, (W (rd (wd s) h i).b)), (11, (W (rd (wd s) h i).c)), (12, (W (rd (wd s) h i).d)), (13, (W (rd (wd s) h i).e)), (14, (.int .i64 ((i : Nat) : Int)))] ∧ D = [((n + 2), some ⟨(((List.range 80).map (wd s)).map WL), 1, 32, true⟩), ((n + 1), some ⟨[[(.int .u32 0), (.int .u32 0), (.int .u32 0), (.int .u32 0), (.int .u32 0)]], 5, 59, true⟩), (n, some ⟨[[(W h.a), (W h.b), (W h.c), (W h.d), (W h.e)]], 5, 59, true⟩)] ∧ (∀ i ∈ keys D, i < n') ∧ i ≤ 80) ((80 - 0)) ⟨0, rfl, by omega, ⟨rfl, rfl, rfl, rfl, rfl, rfl, rfl, rfl, rfl, trivial⟩, rfl, (kb3 (by omega)), by omega⟩ ?_
  rintro kn6 τ6 n6 _ ⟨i, rfl, hn6, hHn6, rfl, hKn6, hIn6⟩
  rw [Has.eq hHn6]
  have hKn6_0 := kk0 hKn6
  have hKn6_1 := kk1 hKn6
  have hKn6_2 := kk2 hKn6
  simp only [keys, List.map, List.forall_mem_cons, List.mem_cons, List.not_mem_nil, false_imp_iff, implies_true, and_true] at hKn6
  refine RA.seq hd <| RA.sR hd env_ok <| OA.ps [(78, (.int .i64 ((i : Nat) : Int)))] rfl ?_
  by_cases hc3 : ((i : Nat) : Int) < 80
  ·
   refine oP 79 yT rfl (Eq.trans (r_bin rfl rfl rfl (b_lss rfl)) (dT hc3)) <| OA.nil fun _ => RA.condT rfl <| RA.skip env_ok ?_
   intro _
   refine RA.seq hd <| RA.block <| RA.sR hd env_ok <| OA.ps [(83, (.int .i64 ((i : Nat) : Int))), (84, (W (rd (wd s) h i).b)), (85, (W (rd (wd s) h i).c)), (86, (W (rd (wd s) h i).d))] rfl <| oC 87 (v := (.tuple ⟨[(W (fk i (rd (wd s) h i).b (rd (wd s) h i).c (rd (wd s) h i).d).1), (W (fk i (rd (wd s) h i).b (rd (wd s) h i).c (rd (wd s) h i).d).2)]⟩)) (hd.of (by omega) (kb3 (by omega))) rfl rfl (s60 i (by omega) _ _ _) fun n7 hn7 => OA.ps [(82, (.tuple ⟨[(W (fk i (rd (wd s) h i).b (rd (wd s) h i).c (rd (wd s) h i).d).1), (W (fk i (rd (wd s) h i).b (rd (wd s) h i).c (rd (wd s) h i).d).2)]⟩)), (88, (W (fk i (rd (wd s) h i).b (rd (wd s) h i).c (rd (wd s) h i).d).1)), (89, (W (fk i (rd (wd s) h i).b (rd (wd s) h i).c (rd (wd s) h i).d).2)), (15, (W (fk i (rd (wd s) h i).b (rd (wd s) h i).c (rd (wd s) h i).d).1)), (16, (W (fk i (rd (wd s) h i).b (rd (wd s) h i).c (rd (wd s) h i).d).2))] rfl <| OA.nil fun _ => RA.par (md := [some [], some [], some [], some [], some [], some [], some [], some [], some [], some [], some [(n + 2)], some [(n + 2)], some [], some [], some [], some [], some [], some [], some [], some [], some [], some [], some []]) env_ok (hd.of (by omega) (kb3 (by omega))) (by kernel_rfl) <| PQ.ps [(90, (W (rd (wd s) h i).a))] rfl <| pC 91 (v := (W (rl (rd (wd s) h i).a 5))) rfl rfl (s59 _ 5 (by decide)) fun n8 hn8 => PQ.ps [(92, (W (fk i (rd (wd s) h i).b (rd (wd s) h i).c (rd (wd s) h i).d).1))] rfl ?_
   refine pP 93 (W ((rl (rd (wd s) h i).a 5) + (fk i (rd (wd s) h i).b (rd (wd s) h i).c (rd (wd s) h i).d).1)) rfl (r_bin rfl rfl rfl (b_addW (rl (rd (wd s) h i).a 5) (fk i (rd (wd s) h i).b (rd (wd s) h i).c (rd (wd s) h i).d).1)) <| PQ.ps [(94, (W (rd (wd s) h i).e))] rfl <| pP 95 (W (((rl (rd (wd s) h i).a 5) + (fk i (rd (wd s) h i).b (rd (wd s) h i).c (rd (wd s) h i).d).1) + (rd (wd s) h i).e)) rfl (r_bin rfl rfl rfl (b_addW ((rl (rd (wd s) h i).a 5) + (fk i (rd (wd s) h i).b (rd (wd s) h i).c (rd (wd s) h i).d).1) (rd (wd s) h i).e)) <| PQ.ps [(96, (W (fk i (rd (wd s) h i).b (rd (wd s) h i).c (rd (wd s) h i).d).2))] rfl <| pP 97 (W ((((rl (rd (wd s) h i).a 5) + (fk i (rd (wd s) h i).b (rd (wd s) h i).c (rd (wd s) h i).d).1) + (rd (wd s) h i).e) + (fk i (rd (wd s) h i).b (rd (wd s) h i).c (rd (wd s) h i).d).2)) rfl (r_bin rfl rfl rfl (b_addW (((rl (rd (wd s) h i).a 5) + (fk i (rd (wd s) h i).b (rd (wd s) h i).c (rd (wd s) h i).d).1) + (rd (wd s) h i).e) (fk i (rd (wd s) h i).b (rd (wd s) h i).c (rd (wd s) h i).d).2)) <| PQ.ps [(98, (.slice (some ⟨(n + 2), 0, none⟩) 80 0)), (99, (.int .i64 ((i : Nat) : Int)))] rfl <| pQL 100 (.pointer (some ⟨(n + 2), i, some 0⟩)) (V := []) rfl (by kernel_rfl) (by kernel_rfl) get_here (r_iaS (l := i) rfl rfl rfl rfl rfl rfl (by omega) (by omega) get_here rfl (by omega)) <| pQL 101 (W ((wd s) i)) (V := []) rfl (by kernel_rfl) (by kernel_rfl) get_here (r_load1 rfl rfl rfl rfl rfl get_here (mapWLf_get (by omega)) rfl) <| pP 102 (W (((((rl (rd (wd s) h i).a 5) + (fk i (rd (wd s) h i).b (rd (wd s) h i).c (rd (wd s) h i).d).1) + (rd (wd s) h i).e) + (fk i (rd (wd s) h i).b (rd (wd s) h i).c (rd (wd s) h i).d).2) + ((wd s) i))) rfl (r_bin rfl rfl rfl (b_addW ((((rl (rd (wd s) h i).a 5) + (fk i (rd (wd s) h i).b (rd (wd s) h i).c (rd (wd s) h i).d).1) + (rd (wd s) h i).e) + (fk i (rd (wd s) h i).b (rd (wd s) h i).c (rd (wd s) h i).d).2) ((wd s) i))) <| PQ.ps [(103, (W (rd (wd s) h i).a)), (104, (W (rd (wd s) h i).b))] rfl <| pC 105 (v := (W (rl (rd (wd s) h i).b 30))) rfl rfl (s59 _ 30 (by decide)) fun n9 hn9 => ?_
   refine PQ.ps [(106, (W (rd (wd s) h i).c)), (107, (W (rd (wd s) h i).d)), (9, (W (((((rl (rd (wd s) h i).a 5) + (fk i (rd (wd s) h i).b (rd (wd s) h i).c (rd (wd s) h i).d).1) + (rd (wd s) h i).e) + (fk i (rd (wd s) h i).b (rd (wd s) h i).c (rd (wd s) h i).d).2) + ((wd s) i)))), (10, (W (rd (wd s) h i).a)), (11, (W (rl (rd (wd s) h i).b 30))), (12, (W (rd (wd s) h i).c)), (13, (W (rd (wd s) h i).d))] rfl <| PQ.done (d := []) (by kernel_rfl) fun _ => RA.rb [(2, (.pointer (some ⟨n, 0, some 0⟩))), (4, (.pointer (some ⟨(n + 1), 0, some 0⟩))), (5, (.slice (some ⟨(n + 2), 0, none⟩) 80 0)), (9, (W (((((rl (rd (wd s) h i).a 5) + (fk i (rd (wd s) h i).b (rd (wd s) h i).c (rd (wd s) h i).d).1) + (rd (wd s) h i).e) + (fk i (rd (wd s) h i).b (rd (wd s) h i).c (rd (wd s) h i).d).2) + ((wd s) i)))), (10, (W (rd (wd s) h i).a)), (11, (W (rl (rd (wd s) h i).b 30))), (12, (W (rd (wd s) h i).c)), (13, (W (rd (wd s) h i).d)), (14, (.int .i64 ((i : Nat) : Int))), (15, (W (fk i (rd (wd s) h i).b (rd (wd s) h i).c (rd (wd s) h i).d).1)), (16, (W (fk i (rd (wd s) h i).b (rd (wd s) h i).c (rd (wd s) h i).d).2)), (79, yT)] rfl (fun τr10 => ?_)
   refine RA.region env_ok <| OA.ps [(80, (.int .i64 ((i : Nat) : Int)))] rfl <| oP 81 (.int .i64 (((i + 1) : Nat) : Int)) rfl (r_bin rfl rfl rfl (b_add (i64_eq (by omega)))) <| OA.ps [(14, (.int .i64 (((i + 1) : Nat) : Int)))] rfl <| OA.nil ?_
   refine ⟨(80 - (i + 1)), by omega, [((n + 2), some ⟨(((List.range 80).map (wd s)).map WL), 1, 32, true⟩), ((n + 1), some ⟨[[(.int .u32 0), (.int .u32 0), (.int .u32 0), (.int .u32 0), (.int .u32 0)]], 5, 59, true⟩), (n, some ⟨[[(W h.a), (W h.b), (W h.c), (W h.d), (W h.e)]], 5, 59, true⟩)], (Less.refl _ _ _), (i + 1), rfl, by omega, ⟨rfl, rfl, rfl, rfl, rfl, rfl, rfl, rfl, rfl, trivial⟩, rfl, (kb3 (by omega)), by omega⟩
  ·
   refine oP 79 yF rfl (Eq.trans (r_bin rfl rfl rfl (b_lss rfl)) (dF hc3)) <| OA.nil fun _ => RA.condF rfl ?_
   refine RA.exit env_ok ?_
   intro _
   refine RA.sR hd env_ok <| oP 108 (.pointer (some ⟨n, 0, some 0⟩)) rfl (r_iaA (l := 0) rfl rfl rfl rfl rfl rfl (by omega) (by omega) (by show 0 + 0 * 1 = 0; omega)) <| oL 109 (W h.a) (gt2 (by omega) get_here) <| OA.ps [(110, (W (rd (wd s) h i).a))] rfl <| oP 111 (W (h.a + (rd (wd s) h i).a)) rfl (r_bin rfl rfl rfl (b_addW h.a (rd (wd s) h i).a)) <| oP 112 (.pointer (some ⟨n, 0, some 1⟩)) rfl (r_iaA (l := 1) rfl rfl rfl rfl rfl rfl (by omega) (by omega) (by show 0 + 1 * 1 = 1; omega)) <| oL 113 (W h.b) (gt2 (by omega) get_here) <| OA.ps [(114, (W (rd (wd s) h i).b))] rfl <| oP 115 (W (h.b + (rd (wd s) h i).b)) rfl (r_bin rfl rfl rfl (b_addW h.b (rd (wd s) h i).b)) <| oP 116 (.pointer (some ⟨n, 0, some 2⟩)) rfl (r_iaA (l := 2) rfl rfl rfl rfl rfl rfl (by omega) (by omega) (by show 0 + 2 * 1 = 2; omega)) <| oL 117 (W h.c) (gt2 (by omega) get_here) ?_
   refine OA.ps [(118, (W (rd (wd s) h i).c))] rfl <| oP 119 (W (h.c + (rd (wd s) h i).c)) rfl (r_bin rfl rfl rfl (b_addW h.c (rd (wd s) h i).c)) <| oP 120 (.pointer (some ⟨n, 0, some 3⟩)) rfl (r_iaA (l := 3) rfl rfl rfl rfl rfl rfl (by omega) (by omega) (by show 0 + 3 * 1 = 3; omega)) <| oL 121 (W h.d) (gt2 (by omega) get_here) <| OA.ps [(122, (W (rd (wd s) h i).d))] rfl <| oP 123 (W (h.d + (rd (wd s) h i).d)) rfl (r_bin rfl rfl rfl (b_addW h.d (rd (wd s) h i).d)) <| oP 124 (.pointer (some ⟨n, 0, some 4⟩)) rfl (r_iaA (l := 4) rfl rfl rfl rfl rfl rfl (by omega) (by omega) (by show 0 + 4 * 1 = 4; omega)) <| oL 125 (W h.e) (gt2 (by omega) get_here) <| OA.ps [(126, (W (rd (wd s) h i).e))] rfl <| oP 127 (W (h.e + (rd (wd s) h i).e)) rfl (r_bin rfl rfl rfl (b_addW h.e (rd (wd s) h i).e)) <| oP 128 (.agg ⟨[(W (h.a + (rd (wd s) h i).a)), (W (h.b + (rd (wd s) h i).b)), (W (h.c + (rd (wd s) h i).c)), (W (h.d + (rd (wd s) h i).d)), (W (h.e + (rd (wd s) h i).e))]⟩) rfl (by kernel_rfl) ?_
   refine o1 none yU n6 ((n + 1), some ⟨[[(W (h.a + (rd (wd s) h i).a)), (W (h.b + (rd (wd s) h i).b)), (W (h.c + (rd (wd s) h i).c)), (W (h.d + (rd (wd s) h i).d)), (W (h.e + (rd (wd s) h i).e))]], 5, 59, true⟩) (rS (get_there (by omega) get_here)) <| OA.nil fun _ => ?_
   refine RA.ret env_ok ?_
   refine ⟨.inr rfl, [(.agg ⟨[(W (h.a + (rd (wd s) h i).a)), (W (h.b + (rd (wd s) h i).b)), (W (h.c + (rd (wd s) h i).c)), (W (h.d + (rd (wd s) h i).d)), (W (h.e + (rd (wd s) h i).e))]⟩)], (resL_cons (res_cellA rfl rfl rfl get_here rfl rfl rfl) resL_nil), (by rw [show i = 80 from (by omega)]; rfl), (kc4 (by omega))⟩
theorem s42t {σ : Store} (t : ByteArray) (j : Nat) (h : 64 * j + 64 ≤ t.size) : PS Try.prog noDen 42 [(.agg ⟨[(W (hs t j).a), (W (hs t j).b), (W (hs t j).c), (W (hs t j).d), (W (hs t j).e)]⟩), (.string (t.extract (64 * j) ((64 * j) + 64)))] σ (.agg ⟨[(W (hs t (j + 1)).a), (W (hs t (j + 1)).b), (W (hs t (j + 1)).c), (W (hs t (j + 1)).d), (W (hs t (j + 1)).e)]⟩) := by
  have h1 := s42 (σ := σ) (hs t j) (t.extract (64 * j) ((64 * j) + 64)) (by rw [size_cut _ _ _ (by omega)]; omega)
  rw [show blk (hs t j) (t.extract (64 * j) ((64 * j) + 64)) = hs t (j + 1) from by rw [hs]] at h1
  exact h1
end Go.Proofs.Ytdnkhdkflemkeaa.Vt
/- Dg8: walks through functions of the program, by the calculus; written by a program of this workplace. -/
namespace Go.Proofs.Ytdnkhdkflemkeaa.Vt
open Go Go.Proofs Go.Proofs.YtdnkhdkflemkeaaV
set_option maxRecDepth 100000
set_option linter.unusedVariables false
set_option linter.unusedSimpArgs false
set_option maxHeartbeats 8000000
set_option maxHeartbeats 4000000 in
theorem s16 {σ : Store} (s : ByteArray) (hs0 : s.size < 4294967296)   : PS Try.prog noDen 16 [(.string s)] σ (.string (sha s)) := by
 refine PS.body (E := env) env_ok rfl rfl (by show _ ≤ _; exact of_decide_eq_true (by kernel_rfl)) (fun n hd => ?_)
 refine RA.sR hd env_ok <| OA.ps [(2, (.string (ByteArray.mk #[])))] rfl <| OA.nil fun _ => RA.sR hd env_ok <| OA.ps [(8, (.string s))] rfl <| oP 9 (.string (s ++ (ByteArray.mk #[128]))) rfl (r_cat rfl rfl rfl (by (try simp only [ByteArray.size_append, bstr_size, size_lit, List.size_toArray, List.length_cons, List.length_nil, List.length_take, List.length_drop, List.length_replicate, putL_len]); try omega)) <| OA.ps [(3, (.string (s ++ (ByteArray.mk #[128]))))] rfl <| OA.nil fun _ => RA.seq hd <| RA.block ?_
 refine RA.loop hd (fun kk_ τ n' D => ∃ z : Nat,  kk_ = ((119 - s.size % 64) % 64 - z) ∧ n ≤ n' ∧ Has τ [(0, (.string s)), (3, (.string ((s ++ (ByteArray.mk #[128])) ++ (bstr (List.replicate z 0)))))] ∧ D = [] ∧ (∀ i ∈ keys D, i < n') ∧ z ≤ (119 - s.size % 64) % 64) (((119 - s.size % 64) % 64 - 0)) ⟨0, rfl, by omega, ⟨rfl, (congrArg Value.string (rep_zero _)), trivial⟩, rfl, (fun i hi => by cases hi), by omega⟩ ?_
 rintro kn1 τ1 n1 _ ⟨z, rfl, hn1, hHn1, rfl, hKn1, hIn1⟩
 rw [Has.eq hHn1]
 simp only [keys, List.map, List.forall_mem_cons, List.mem_cons, List.not_mem_nil, false_imp_iff, implies_true, and_true] at hKn1
 have hsz : ((s ++ ⟨#[128]⟩) ++ (bstr (List.replicate z 0)) : ByteArray).size = s.size + 1 + z := by simp only [ByteArray.size_append, bstr_size, size_lit, List.size_toArray, List.length_cons, List.length_nil, List.length_replicate]
 refine RA.seq hd <| RA.sR hd env_ok <| OA.ps [(10, (.string ((s ++ (ByteArray.mk #[128])) ++ (bstr (List.replicate z 0))))), (11, (.int .i64 ((((s ++ (ByteArray.mk #[128])) ++ (bstr (List.replicate z 0))).size : Nat) : Int)))] rfl <| oP 12 (.int .i64 (((((s ++ (ByteArray.mk #[128])) ++ (bstr (List.replicate z 0))).size % 64) : Nat) : Int)) rfl (r_bin rfl rfl rfl (b_remN (a := ((s ++ (ByteArray.mk #[128])) ++ (bstr (List.replicate z 0))).size) (c := 64) (by decide))) ?_
 by_cases hc1 : (((((s ++ (ByteArray.mk #[128])) ++ (bstr (List.replicate z 0))).size % 64) : Nat) : Int) ≠ 56
 ·
  refine oP 13 yT rfl (Eq.trans (r_bin rfl rfl rfl (b_neq rfl)) (dT hc1)) <| OA.nil fun _ => RA.condT rfl <| RA.skip env_ok ?_
  intro _
  refine RA.block <| RA.region env_ok <| OA.ps [(14, (.string ((s ++ (ByteArray.mk #[128])) ++ (bstr (List.replicate z 0)))))] rfl <| oP 15 (.string (((s ++ (ByteArray.mk #[128])) ++ (bstr (List.replicate z 0))) ++ (ByteArray.mk #[0]))) rfl (r_cat rfl rfl rfl (by (try simp only [ByteArray.size_append, bstr_size, size_lit, List.size_toArray, List.length_cons, List.length_nil, List.length_take, List.length_drop, List.length_replicate, putL_len]); try omega)) <| OA.ps [(3, (.string (((s ++ (ByteArray.mk #[128])) ++ (bstr (List.replicate z 0))) ++ (ByteArray.mk #[0]))))] rfl <| OA.nil ?_
  refine ⟨((119 - s.size % 64) % 64 - (z + 1)), by omega, [], (Less.refl _ _ _), (z + 1), rfl, by omega, ⟨rfl, (congrArg Value.string (rep_snoc _ _)), trivial⟩, rfl, (fun i hi => by cases hi), by omega⟩
 ·
  refine oP 13 yF rfl (Eq.trans (r_bin rfl rfl rfl (b_neq rfl)) (dF hc1)) <| OA.nil fun _ => RA.condF rfl ?_
  refine RA.exit env_ok ?_
  intro _
  refine RA.sR hd env_ok <| OA.ps [(16, (.string ((s ++ (ByteArray.mk #[128])) ++ (bstr (List.replicate z 0))))), (17, (.string s)), (18, (.int .i64 ((s.size : Nat) : Int)))] rfl <| oP 19 (.int .u64 ((s.size : Nat) : Int)) rfl (r_cvt rfl rfl rfl rfl rfl ⟨_, rfl⟩ (u64_eq (by omega))) <| oP 20 (.int .u64 (((s.size * 8) : Nat) : Int)) rfl (r_bin rfl rfl rfl (b_mul (u64_eq (by omega)))) <| oC 21 (hd.up (by omega)) rfl rfl (s41 8 (s.size * 8) (by omega) (by decide)) fun n2 hn2 => oP 22 (.string (((s ++ (ByteArray.mk #[128])) ++ (bstr (List.replicate z 0))) ++ (bstr (putL (s.size * 8) 8)))) rfl (r_cat rfl rfl rfl (by (try simp only [ByteArray.size_append, bstr_size, size_lit, List.size_toArray, List.length_cons, List.length_nil, List.length_take, List.length_drop, List.length_replicate, putL_len]); try omega)) <| OA.ps [(3, (.string (((s ++ (ByteArray.mk #[128])) ++ (bstr (List.replicate z 0))) ++ (bstr (putL (s.size * 8) 8)))))] rfl <| OA.nil fun _ => RA.sR hd env_ok <| oP 23 (.agg ⟨[(.int .u32 1732584193), (.int .u32 4023233417), (.int .u32 2562383102), (.int .u32 271733878), (.int .u32 3285377520)]⟩) rfl (by kernel_rfl) <| o1 (some 4) (.pointer (some ⟨n2, 0, some 0⟩)) (n2 + 1) (n2, some ⟨[[(.int .u32 0), (.int .u32 0), (.int .u32 0), (.int .u32 0), (.int .u32 0)]], 5, 59, true⟩) rfl ?_
  refine o1 none yU (n2 + 1) (n2, some ⟨[[(.int .u32 1732584193), (.int .u32 4023233417), (.int .u32 2562383102), (.int .u32 271733878), (.int .u32 3285377520)]], 5, 59, true⟩) (rS get_here) <| OA.nil fun _ => RA.seq hd <| RA.sR hd env_ok <| OA.ps [(5, (.int .i64 0))] rfl <| OA.nil fun _ => RA.block ?_
  have hz : z = (119 - s.size % 64) % 64 := by omega
  have hp := padded_size s
  have hp64 := padded_mod s
  refine RA.weaken hd (LsO (fA get_here get_here fan)) ?_
  refine RA.loop hd (fun kk_ τ n' D => ∃ j : Nat,  kk_ = ((padded s).size - 64 * j) ∧ (n2 + 1) ≤ n' ∧ Has τ [(3, (.string (padded s))), (4, (.pointer (some ⟨n2, 0, some 0⟩))), (5, (.int .i64 (((64 * j) : Nat) : Int)))] ∧ D = [(n2, some ⟨[[(W (hs (padded s) j).a), (W (hs (padded s) j).b), (W (hs (padded s) j).c), (W (hs (padded s) j).d), (W (hs (padded s) j).e)]], 5, 59, true⟩)] ∧ (∀ i ∈ keys D, i < n') ∧ 64 * j ≤ (padded s).size) (((padded s).size - 64 * 0)) ⟨0, rfl, by omega, ⟨(by show Value.string _ = Value.string _; rw [putL_8, hz]; rfl), rfl, rfl, trivial⟩, rfl, (kb1 (by omega)), by omega⟩ ?_
  rintro kn3 τ3 n3 _ ⟨j, rfl, hn3, hHn3, rfl, hKn3, hIn3⟩
  rw [Has.eq hHn3]
  have hKn3_0 := kk0 hKn3
  simp only [keys, List.map, List.forall_mem_cons, List.mem_cons, List.not_mem_nil, false_imp_iff, implies_true, and_true] at hKn3
  refine RA.seq hd <| RA.sR hd env_ok <| OA.ps [(24, (.int .i64 (((64 * j) : Nat) : Int))), (25, (.string (padded s))), (26, (.int .i64 (((padded s).size : Nat) : Int)))] rfl ?_
  by_cases hc2 : (((64 * j) : Nat) : Int) < (((padded s).size : Nat) : Int)
  ·
   refine oP 27 yT rfl (Eq.trans (r_bin rfl rfl rfl (b_lss rfl)) (dT hc2)) <| OA.nil fun _ => RA.condT rfl <| RA.skip env_ok ?_
   intro _
   refine RA.seq hd <| RA.block <| RA.par (md := [some [n2], some [], some [], some [], some [], some [], some [], none]) env_ok (hd.of (by omega) (kb1 (by omega))) (by kernel_rfl) <| pQL 30 (.agg ⟨[(W (hs (padded s) j).a), (W (hs (padded s) j).b), (W (hs (padded s) j).c), (W (hs (padded s) j).d), (W (hs (padded s) j).e)]⟩) (V := []) rfl (by kernel_rfl) (by kernel_rfl) get_here (r_loadA rfl rfl rfl rfl get_here rfl rfl rfl) <| PQ.ps [(31, (.string (padded s))), (32, (.int .i64 (((64 * j) : Nat) : Int))), (33, (.int .i64 (((64 * j) : Nat) : Int)))] rfl <| pP 34 (.int .i64 ((((64 * j) + 64) : Nat) : Int)) rfl (r_bin rfl rfl rfl (b_add (i64_eq (by omega)))) <| pP 35 (.string ((padded s).extract (64 * j) ((64 * j) + 64))) rfl (r_cut (a := (64 * j)) (b := ((64 * j) + 64)) rfl rfl (fun _ => rfl) (fun _ => rfl) rfl rfl bound_nat bound_nat (by omega) (by omega) rfl) <| pC 36 rfl rfl (s42t (padded s) j (by omega)) fun n4 hn4 => PQ.op (dst := none) (v := (.tuple #[])) (n1 := n4) (d1 := [(n2, some ⟨[[(W (hs (padded s) (j + 1)).a), (W (hs (padded s) (j + 1)).b), (W (hs (padded s) (j + 1)).c), (W (hs (padded s) (j + 1)).d), (W (hs (padded s) (j + 1)).e)]], 5, 59, true⟩)]) rfl rfl rfl _ (sA (V := []) (by kernel_rfl) (by kernel_rfl)) (rS get_here) (by omega) (kp1 (wr_tight (by kernel_rfl) (by omega))) <| PQ.done (d := [(n2, some ⟨[[(W (hs (padded s) (j + 1)).a), (W (hs (padded s) (j + 1)).b), (W (hs (padded s) (j + 1)).c), (W (hs (padded s) (j + 1)).d), (W (hs (padded s) (j + 1)).e)]], 5, 59, true⟩)]) (by kernel_rfl) fun _ => RA.region env_ok ?_
   refine OA.ps [(28, (.int .i64 (((64 * j) : Nat) : Int)))] rfl <| oP 29 (.int .i64 ((((64 * j) + 64) : Nat) : Int)) rfl (r_bin rfl rfl rfl (b_add (i64_eq (by omega)))) <| OA.ps [(5, (.int .i64 ((((64 * j) + 64) : Nat) : Int)))] rfl <| OA.nil ?_
   refine ⟨((padded s).size - 64 * (j + 1)), by omega, [(n2, some ⟨[[(W (hs (padded s) (j + 1)).a), (W (hs (padded s) (j + 1)).b), (W (hs (padded s) (j + 1)).c), (W (hs (padded s) (j + 1)).d), (W (hs (padded s) (j + 1)).e)]], 5, 59, true⟩)], (LsO (fA get_here get_here fan)), (j + 1), rfl, by omega, ⟨rfl, rfl, rfl, trivial⟩, rfl, (kb1 (by omega)), by omega⟩
  ·
   refine oP 27 yF rfl (Eq.trans (r_bin rfl rfl rfl (b_lss rfl)) (dF hc2)) <| OA.nil fun _ => RA.condF rfl ?_
   refine RA.exit env_ok ?_
   intro _
   refine RA.sR hd env_ok <| OA.ps [(6, (.string (ByteArray.mk #[])))] rfl <| OA.nil fun _ => RA.seq hd <| RA.sR hd env_ok <| OA.ps [(7, (.int .i64 0))] rfl <| OA.nil fun _ => RA.block ?_
   refine RA.unroll hd ?_
   refine RA.seq hd <| RA.sR hd env_ok <| OA.ps [(37, (.int .i64 0))] rfl <| oP 38 yT rfl (r_bin rfl rfl rfl (b_lss rfl)) <| OA.nil fun _ => RA.condT rfl <| RA.skip env_ok ?_
   intro _
   refine RA.seq hd <| RA.block <| RA.region env_ok <| OA.ps [(41, (.string (ByteArray.mk #[]))), (42, (.int .i64 0))] rfl <| oP 43 (.pointer (some ⟨n2, 0, some 0⟩)) rfl (r_iaA (l := 0) rfl rfl rfl rfl rfl rfl (by omega) (by omega) (by show 0 + 0 * 1 = 0; omega)) <| oL 44 (W (hs (padded s) j).a) get_here <| oP 45 (.int .u64 (((hs (padded s) j).a.toNat : Nat) : Int)) rfl (r_cvt rfl rfl rfl rfl rfl ⟨_, rfl⟩ (u64_eq (by have := ((hs (padded s) j).a).isLt; omega))) <| oC 46 (hd.of (by omega) (kb1 (by omega))) rfl rfl (s41 4 (hs (padded s) j).a.toNat (by have := ((hs (padded s) j).a).isLt; omega) (by decide)) fun n5 hn5 => oP 47 (.string ((ByteArray.mk #[]) ++ (bstr (putL (hs (padded s) j).a.toNat 4)))) rfl (r_cat rfl rfl rfl (by (try simp only [ByteArray.size_append, bstr_size, size_lit, List.size_toArray, List.length_cons, List.length_nil, List.length_take, List.length_drop, List.length_replicate, putL_len]); try omega)) <| OA.ps [(6, (.string ((ByteArray.mk #[]) ++ (bstr (putL (hs (padded s) j).a.toNat 4)))))] rfl <| OA.nil fun _ => ?_
   refine RA.region env_ok <| OA.ps [(39, (.int .i64 0))] rfl <| oP 40 (.int .i64 1) rfl (r_bin rfl rfl rfl (b_add (i64_eq (by omega)))) <| OA.ps [(7, (.int .i64 1))] rfl <| OA.nil fun _ => ?_
   refine RA.unroll hd ?_
   refine RA.seq hd <| RA.sR hd env_ok <| OA.ps [(37, (.int .i64 1))] rfl <| oP 38 yT rfl (r_bin rfl rfl rfl (b_lss rfl)) <| OA.nil fun _ => RA.condT rfl <| RA.skip env_ok ?_
   intro _
   refine RA.seq hd <| RA.block <| RA.region env_ok <| OA.ps [(41, (.string ((ByteArray.mk #[]) ++ (bstr (putL (hs (padded s) j).a.toNat 4))))), (42, (.int .i64 1))] rfl <| oP 43 (.pointer (some ⟨n2, 0, some 1⟩)) rfl (r_iaA (l := 1) rfl rfl rfl rfl rfl rfl (by omega) (by omega) (by show 0 + 1 * 1 = 1; omega)) <| oL 44 (W (hs (padded s) j).b) get_here <| oP 45 (.int .u64 (((hs (padded s) j).b.toNat : Nat) : Int)) rfl (r_cvt rfl rfl rfl rfl rfl ⟨_, rfl⟩ (u64_eq (by have := ((hs (padded s) j).b).isLt; omega))) <| oC 46 (hd.of (by omega) (kb1 (by omega))) rfl rfl (s41 4 (hs (padded s) j).b.toNat (by have := ((hs (padded s) j).b).isLt; omega) (by decide)) fun n6 hn6 => oP 47 (.string (((ByteArray.mk #[]) ++ (bstr (putL (hs (padded s) j).a.toNat 4))) ++ (bstr (putL (hs (padded s) j).b.toNat 4)))) rfl (r_cat rfl rfl rfl (by (try simp only [ByteArray.size_append, bstr_size, size_lit, List.size_toArray, List.length_cons, List.length_nil, List.length_take, List.length_drop, List.length_replicate, putL_len]); try omega)) <| OA.ps [(6, (.string (((ByteArray.mk #[]) ++ (bstr (putL (hs (padded s) j).a.toNat 4))) ++ (bstr (putL (hs (padded s) j).b.toNat 4)))))] rfl <| OA.nil fun _ => ?_
   refine RA.rb [(3, (.string (padded s))), (4, (.pointer (some ⟨n2, 0, some 0⟩))), (5, (.int .i64 (((64 * j) : Nat) : Int))), (6, (.string (((ByteArray.mk #[]) ++ (bstr (putL (hs (padded s) j).a.toNat 4))) ++ (bstr (putL (hs (padded s) j).b.toNat 4))))), (7, (.int .i64 1)), (27, yF), (38, yT)] rfl (fun τr7 => ?_)
   refine RA.region env_ok <| OA.ps [(39, (.int .i64 1))] rfl <| oP 40 (.int .i64 2) rfl (r_bin rfl rfl rfl (b_add (i64_eq (by omega)))) <| OA.ps [(7, (.int .i64 2))] rfl <| OA.nil fun _ => ?_
   refine RA.unroll hd ?_
   refine RA.seq hd <| RA.sR hd env_ok <| OA.ps [(37, (.int .i64 2))] rfl <| oP 38 yT rfl (r_bin rfl rfl rfl (b_lss rfl)) <| OA.nil fun _ => RA.condT rfl <| RA.skip env_ok ?_
   intro _
   refine RA.seq hd <| RA.block <| RA.region env_ok <| OA.ps [(41, (.string (((ByteArray.mk #[]) ++ (bstr (putL (hs (padded s) j).a.toNat 4))) ++ (bstr (putL (hs (padded s) j).b.toNat 4))))), (42, (.int .i64 2))] rfl <| oP 43 (.pointer (some ⟨n2, 0, some 2⟩)) rfl (r_iaA (l := 2) rfl rfl rfl rfl rfl rfl (by omega) (by omega) (by show 0 + 2 * 1 = 2; omega)) <| oL 44 (W (hs (padded s) j).c) get_here <| oP 45 (.int .u64 (((hs (padded s) j).c.toNat : Nat) : Int)) rfl (r_cvt rfl rfl rfl rfl rfl ⟨_, rfl⟩ (u64_eq (by have := ((hs (padded s) j).c).isLt; omega))) <| oC 46 (hd.of (by omega) (kb1 (by omega))) rfl rfl (s41 4 (hs (padded s) j).c.toNat (by have := ((hs (padded s) j).c).isLt; omega) (by decide)) fun n8 hn8 => oP 47 (.string ((((ByteArray.mk #[]) ++ (bstr (putL (hs (padded s) j).a.toNat 4))) ++ (bstr (putL (hs (padded s) j).b.toNat 4))) ++ (bstr (putL (hs (padded s) j).c.toNat 4)))) rfl (r_cat rfl rfl rfl (by (try simp only [ByteArray.size_append, bstr_size, size_lit, List.size_toArray, List.length_cons, List.length_nil, List.length_take, List.length_drop, List.length_replicate, putL_len]); try omega)) <| OA.ps [(6, (.string ((((ByteArray.mk #[]) ++ (bstr (putL (hs (padded s) j).a.toNat 4))) ++ (bstr (putL (hs (padded s) j).b.toNat 4))) ++ (bstr (putL (hs (padded s) j).c.toNat 4)))))] rfl <| OA.nil fun _ => ?_
   refine RA.region env_ok <| OA.ps [(39, (.int .i64 2))] rfl <| oP 40 (.int .i64 3) rfl (r_bin rfl rfl rfl (b_add (i64_eq (by omega)))) <| OA.ps [(7, (.int .i64 3))] rfl <| OA.nil fun _ => ?_
   refine RA.unroll hd ?_
   refine RA.seq hd <| RA.sR hd env_ok <| OA.ps [(37, (.int .i64 3))] rfl <| oP 38 yT rfl (r_bin rfl rfl rfl (b_lss rfl)) <| OA.nil fun _ => RA.condT rfl <| RA.skip env_ok ?_
   intro _
   refine RA.seq hd <| RA.block <| RA.region env_ok <| OA.ps [(41, (.string ((((ByteArray.mk #[]) ++ (bstr (putL (hs (padded s) j).a.toNat 4))) ++ (bstr (putL (hs (padded s) j).b.toNat 4))) ++ (bstr (putL (hs (padded s) j).c.toNat 4))))), (42, (.int .i64 3))] rfl <| oP 43 (.pointer (some ⟨n2, 0, some 3⟩)) rfl (r_iaA (l := 3) rfl rfl rfl rfl rfl rfl (by omega) (by omega) (by show 0 + 3 * 1 = 3; omega)) <| oL 44 (W (hs (padded s) j).d) get_here <| oP 45 (.int .u64 (((hs (padded s) j).d.toNat : Nat) : Int)) rfl (r_cvt rfl rfl rfl rfl rfl ⟨_, rfl⟩ (u64_eq (by have := ((hs (padded s) j).d).isLt; omega))) <| oC 46 (hd.of (by omega) (kb1 (by omega))) rfl rfl (s41 4 (hs (padded s) j).d.toNat (by have := ((hs (padded s) j).d).isLt; omega) (by decide)) fun n9 hn9 => oP 47 (.string (((((ByteArray.mk #[]) ++ (bstr (putL (hs (padded s) j).a.toNat 4))) ++ (bstr (putL (hs (padded s) j).b.toNat 4))) ++ (bstr (putL (hs (padded s) j).c.toNat 4))) ++ (bstr (putL (hs (padded s) j).d.toNat 4)))) rfl (r_cat rfl rfl rfl (by (try simp only [ByteArray.size_append, bstr_size, size_lit, List.size_toArray, List.length_cons, List.length_nil, List.length_take, List.length_drop, List.length_replicate, putL_len]); try omega)) <| OA.ps [(6, (.string (((((ByteArray.mk #[]) ++ (bstr (putL (hs (padded s) j).a.toNat 4))) ++ (bstr (putL (hs (padded s) j).b.toNat 4))) ++ (bstr (putL (hs (padded s) j).c.toNat 4))) ++ (bstr (putL (hs (padded s) j).d.toNat 4)))))] rfl <| OA.nil fun _ => ?_
   refine RA.rb [(3, (.string (padded s))), (4, (.pointer (some ⟨n2, 0, some 0⟩))), (5, (.int .i64 (((64 * j) : Nat) : Int))), (6, (.string (((((ByteArray.mk #[]) ++ (bstr (putL (hs (padded s) j).a.toNat 4))) ++ (bstr (putL (hs (padded s) j).b.toNat 4))) ++ (bstr (putL (hs (padded s) j).c.toNat 4))) ++ (bstr (putL (hs (padded s) j).d.toNat 4))))), (7, (.int .i64 3)), (27, yF), (38, yT)] rfl (fun τr10 => ?_)
   refine RA.region env_ok <| OA.ps [(39, (.int .i64 3))] rfl <| oP 40 (.int .i64 4) rfl (r_bin rfl rfl rfl (b_add (i64_eq (by omega)))) <| OA.ps [(7, (.int .i64 4))] rfl <| OA.nil fun _ => ?_
   refine RA.unroll hd ?_
   refine RA.seq hd <| RA.sR hd env_ok <| OA.ps [(37, (.int .i64 4))] rfl <| oP 38 yT rfl (r_bin rfl rfl rfl (b_lss rfl)) <| OA.nil fun _ => RA.condT rfl <| RA.skip env_ok ?_
   intro _
   refine RA.seq hd <| RA.block <| RA.region env_ok <| OA.ps [(41, (.string (((((ByteArray.mk #[]) ++ (bstr (putL (hs (padded s) j).a.toNat 4))) ++ (bstr (putL (hs (padded s) j).b.toNat 4))) ++ (bstr (putL (hs (padded s) j).c.toNat 4))) ++ (bstr (putL (hs (padded s) j).d.toNat 4))))), (42, (.int .i64 4))] rfl <| oP 43 (.pointer (some ⟨n2, 0, some 4⟩)) rfl (r_iaA (l := 4) rfl rfl rfl rfl rfl rfl (by omega) (by omega) (by show 0 + 4 * 1 = 4; omega)) <| oL 44 (W (hs (padded s) j).e) get_here <| oP 45 (.int .u64 (((hs (padded s) j).e.toNat : Nat) : Int)) rfl (r_cvt rfl rfl rfl rfl rfl ⟨_, rfl⟩ (u64_eq (by have := ((hs (padded s) j).e).isLt; omega))) <| oC 46 (hd.of (by omega) (kb1 (by omega))) rfl rfl (s41 4 (hs (padded s) j).e.toNat (by have := ((hs (padded s) j).e).isLt; omega) (by decide)) fun n11 hn11 => oP 47 (.string ((((((ByteArray.mk #[]) ++ (bstr (putL (hs (padded s) j).a.toNat 4))) ++ (bstr (putL (hs (padded s) j).b.toNat 4))) ++ (bstr (putL (hs (padded s) j).c.toNat 4))) ++ (bstr (putL (hs (padded s) j).d.toNat 4))) ++ (bstr (putL (hs (padded s) j).e.toNat 4)))) rfl (r_cat rfl rfl rfl (by (try simp only [ByteArray.size_append, bstr_size, size_lit, List.size_toArray, List.length_cons, List.length_nil, List.length_take, List.length_drop, List.length_replicate, putL_len]); try omega)) <| OA.ps [(6, (.string ((((((ByteArray.mk #[]) ++ (bstr (putL (hs (padded s) j).a.toNat 4))) ++ (bstr (putL (hs (padded s) j).b.toNat 4))) ++ (bstr (putL (hs (padded s) j).c.toNat 4))) ++ (bstr (putL (hs (padded s) j).d.toNat 4))) ++ (bstr (putL (hs (padded s) j).e.toNat 4)))))] rfl <| OA.nil fun _ => ?_
   refine RA.region env_ok <| OA.ps [(39, (.int .i64 4))] rfl <| oP 40 (.int .i64 5) rfl (r_bin rfl rfl rfl (b_add (i64_eq (by omega)))) <| OA.ps [(7, (.int .i64 5))] rfl <| OA.nil fun _ => ?_
   refine RA.unroll hd ?_
   refine RA.seq hd <| RA.sR hd env_ok <| OA.ps [(37, (.int .i64 5))] rfl <| oP 38 yF rfl (r_bin rfl rfl rfl (b_lss rfl)) <| OA.nil fun _ => RA.condF rfl ?_
   refine RA.exit env_ok ?_
   intro _
   refine RA.sR hd env_ok <| OA.ps [(48, (.string ((((((ByteArray.mk #[]) ++ (bstr (putL (hs (padded s) j).a.toNat 4))) ++ (bstr (putL (hs (padded s) j).b.toNat 4))) ++ (bstr (putL (hs (padded s) j).c.toNat 4))) ++ (bstr (putL (hs (padded s) j).d.toNat 4))) ++ (bstr (putL (hs (padded s) j).e.toNat 4))))), (2, (.string ((((((ByteArray.mk #[]) ++ (bstr (putL (hs (padded s) j).a.toNat 4))) ++ (bstr (putL (hs (padded s) j).b.toNat 4))) ++ (bstr (putL (hs (padded s) j).c.toNat 4))) ++ (bstr (putL (hs (padded s) j).d.toNat 4))) ++ (bstr (putL (hs (padded s) j).e.toNat 4)))))] rfl <| OA.nil fun _ => ?_
   refine RA.ret env_ok ?_
   exact lf (.string ((((((ByteArray.mk #[]) ++ (bstr (putL (hs (padded s) j).a.toNat 4))) ++ (bstr (putL (hs (padded s) j).b.toNat 4))) ++ (bstr (putL (hs (padded s) j).c.toNat 4))) ++ (bstr (putL (hs (padded s) j).d.toNat 4))) ++ (bstr (putL (hs (padded s) j).e.toNat 4)))) (by rw [one, show j = (padded s).size / 64 from (by omega), putL_4, putL_4, putL_4, putL_4, putL_4, BitVec.ofNat_toNat, BitVec.ofNat_toNat, BitVec.ofNat_toNat, BitVec.ofNat_toNat, BitVec.ofNat_toNat, BitVec.setWidth_eq, BitVec.setWidth_eq, BitVec.setWidth_eq, BitVec.setWidth_eq, BitVec.setWidth_eq, out5_eq]; rfl)
end Go.Proofs.Ytdnkhdkflemkeaa.Vt
/- Dg5: walks through functions of the program, by the calculus; written by a program of this workplace. -/
namespace Go.Proofs.Ytdnkhdkflemkeaa.Vt
open Go Go.Proofs Go.Proofs.YtdnkhdkflemkeaaV
set_option maxRecDepth 100000
set_option linter.unusedVariables false
set_option linter.unusedSimpArgs false
set_option maxHeartbeats 8000000
set_option maxHeartbeats 4000000 in
theorem s15 {σ : Store} (s : ByteArray) (hs0 : s.size < 4294967296)   : PS Try.prog noDen 15 [(.string s)] σ (.string (sha s)) := by
 refine PS.body (E := env) env_ok rfl rfl (by show _ ≤ _; exact of_decide_eq_true (by kernel_rfl)) (fun n hd => ?_)
 refine RA.sR hd env_ok <| OA.ps [(2, (.string (ByteArray.mk #[])))] rfl <| OA.nil fun _ => RA.sR hd env_ok <| oC 8 (hd.up (by omega)) rfl rfl s37 fun n1 hn1 => o1 (some 3) (.pointer (some ⟨n1, 0, some 0⟩)) (n1 + 1) (n1, some ⟨[[(.int .u32 0), (.int .u32 0), (.int .u32 0), (.int .u32 0), (.int .u32 0)]], 5, 60, true⟩) rfl <| o1 none yU (n1 + 1) (n1, some ⟨[[(W h0.a), (W h0.b), (W h0.c), (W h0.d), (W h0.e)]], 5, 60, true⟩) (rS get_here) <| OA.nil fun _ => RA.seq hd <| RA.par (md := [some [], some [], some [], some [], some [], some [], some [], some [], none, some [], some [], some [], some [], some [], some [], some [], some []]) env_ok (hd.of (by omega) (kb2 (by omega))) (by kernel_rfl) <| PQ.ps [(9, (.string s))] rfl ?_
 refine pP 10 (.string (s ++ (ByteArray.mk #[128]))) rfl (r_cat rfl rfl rfl (by (try simp only [ByteArray.size_append, bstr_size, size_lit, List.size_toArray, List.length_cons, List.length_nil, List.length_take, List.length_drop, List.length_replicate, be8_len, be4_len]); try omega)) <| PQ.ps [(11, (.string s)), (12, (.int .i64 ((s.size : Nat) : Int)))] rfl <| pP 13 (.int .i64 (((s.size % 64) : Nat) : Int)) rfl (r_bin rfl rfl rfl (b_remN (a := s.size) (c := 64) (by decide))) <| pP 14 (.int .i64 (((119 - (s.size % 64)) : Nat) : Int)) rfl (r_bin rfl rfl rfl (b_sub (i64_eq (by omega)))) <| pP 15 (.int .i64 ((((119 - (s.size % 64)) % 64) : Nat) : Int)) rfl (r_bin rfl rfl rfl (b_remN (a := (119 - (s.size % 64))) (c := 64) (by decide))) <| PQ.op (dst := (some 16)) (v := (.slice (some ⟨(n1 + 1), 0, none⟩) ((119 - (s.size % 64)) % 64) 0)) (n1 := (n1 + 2)) (d1 := [((n1 + 1), some ⟨(bc (List.replicate ((119 - (s.size % 64)) % 64) 0)), 1, 5, true⟩)]) rfl rfl rfl noStore nOK (r_makeBytes (K := ((119 - (s.size % 64)) % 64)) rfl rfl rfl rfl rfl rfl rfl rfl rfl (by omega)) (by omega) (kp1 (wr_new (by omega) (by omega))) <| PQ.pure (dst := (some 17)) (v := (.string (bstr (((List.replicate ((119 - (s.size % 64)) % 64) 0).drop 0).take ((119 - (s.size % 64)) % 64))))) rfl rfl rfl _ (sA (V := [((n1 + 1), some ⟨(bc (List.replicate ((119 - (s.size % 64)) % 64) 0)), 1, 5, true⟩)]) (by kernel_rfl) (by kernel_rfl)) (r_b2s rfl rfl rfl rfl rfl rfl rfl rfl get_here (by rw [List.length_replicate]; omega)) <| pP 18 (.string ((s ++ (ByteArray.mk #[128])) ++ (bstr (((List.replicate ((119 - (s.size % 64)) % 64) 0).drop 0).take ((119 - (s.size % 64)) % 64))))) rfl (r_cat rfl rfl rfl (by (try simp only [ByteArray.size_append, bstr_size, size_lit, List.size_toArray, List.length_cons, List.length_nil, List.length_take, List.length_drop, List.length_replicate, be8_len, be4_len]); try omega)) <| PQ.ps [(19, (.string s)), (20, (.int .i64 ((s.size : Nat) : Int)))] rfl <| pP 21 (.int .u64 ((s.size : Nat) : Int)) rfl (r_cvt rfl rfl rfl rfl rfl ⟨_, rfl⟩ (u64_eq (by omega))) <| pP 22 (.int .u64 (((s.size * 8) : Nat) : Int)) rfl (r_bin rfl rfl rfl (b_mul (u64_eq (by omega)))) ?_
 refine pC 23 (v := (.string (bstr (be8 (s.size * 8))))) rfl rfl (s38 _ (by omega)) fun n2 hn2 => pP 24 (.string (((s ++ (ByteArray.mk #[128])) ++ (bstr (((List.replicate ((119 - (s.size % 64)) % 64) 0).drop 0).take ((119 - (s.size % 64)) % 64)))) ++ (bstr (be8 (s.size * 8))))) rfl (r_cat rfl rfl rfl (by (try simp only [ByteArray.size_append, bstr_size, size_lit, List.size_toArray, List.length_cons, List.length_nil, List.length_take, List.length_drop, List.length_replicate, be8_len, be4_len]); try omega)) <| PQ.ps [(4, (.string (((s ++ (ByteArray.mk #[128])) ++ (bstr (((List.replicate ((119 - (s.size % 64)) % 64) 0).drop 0).take ((119 - (s.size % 64)) % 64)))) ++ (bstr (be8 (s.size * 8))))))] rfl <| PQ.done (d := [((n1 + 1), some ⟨(bc (List.replicate ((119 - (s.size % 64)) % 64) 0)), 1, 5, true⟩)]) (by kernel_rfl) fun _ => RA.seq hd <| RA.block ?_
 have hp := padded_size s
 have hp64 := padded_mod s
 refine RA.weaken hd (LsO (fA get_here (get_there (by omega) get_here) fan)) ?_
 refine RA.loop hd (fun kk_ τ n' D => ∃ j : Nat,  kk_ = ((padded s).size - 64 * j) ∧ n2 ≤ n' ∧ Has τ [(3, (.pointer (some ⟨n1, 0, some 0⟩))), (4, (.string ((padded s).extract (64 * j) (padded s).size)))] ∧ D = [(n1, some ⟨[[(W (hs (padded s) j).a), (W (hs (padded s) j).b), (W (hs (padded s) j).c), (W (hs (padded s) j).d), (W (hs (padded s) j).e)]], 5, 60, true⟩)] ∧ (∀ i ∈ keys D, i < n') ∧ 64 * j ≤ (padded s).size) (((padded s).size - 64 * 0)) ⟨0, rfl, by omega, ⟨rfl, (by show Value.string _ = Value.string _; rw [List.drop_zero, List.take_of_length_le (by rw [List.length_replicate]; omega), Nat.mul_zero, ext_full _ rfl]; rfl), trivial⟩, rfl, (kb1 (by omega)), by omega⟩ ?_
 rintro kn3 τ3 n3 _ ⟨j, rfl, hn3, hHn3, rfl, hKn3, hIn3⟩
 rw [Has.eq hHn3]
 have hKn3_0 := kk0 hKn3
 simp only [keys, List.map, List.forall_mem_cons, List.mem_cons, List.not_mem_nil, false_imp_iff, implies_true, and_true] at hKn3
 have hsz : ((padded s).extract (64 * j) (padded s).size).size = (padded s).size - 64 * j := size_cut _ _ _ (Nat.le_refl _)
 refine RA.seq hd <| RA.sR hd env_ok <| OA.ps [(25, (.string ((padded s).extract (64 * j) (padded s).size))), (26, (.int .i64 ((((padded s).extract (64 * j) (padded s).size).size : Nat) : Int)))] rfl ?_
 by_cases hc1 : 0 < ((((padded s).extract (64 * j) (padded s).size).size : Nat) : Int)
 ·
  refine oP 27 yT rfl (Eq.trans (r_bin rfl rfl rfl (b_gtr rfl)) (dT hc1)) <| OA.nil fun _ => RA.condT rfl <| RA.skip env_ok ?_
  intro _
  refine RA.block <| RA.seq hd <| RA.par (md := [some [n1], some [], some [], some [], none]) env_ok (hd.of (by omega) (kb1 (by omega))) (by kernel_rfl) <| pQL 28 (.agg ⟨[(W (hs (padded s) j).a), (W (hs (padded s) j).b), (W (hs (padded s) j).c), (W (hs (padded s) j).d), (W (hs (padded s) j).e)]⟩) (V := []) rfl (by kernel_rfl) (by kernel_rfl) get_here (r_loadA rfl rfl rfl rfl get_here rfl rfl rfl) <| PQ.ps [(29, (.string ((padded s).extract (64 * j) (padded s).size)))] rfl <| pP 30 (.string (((padded s).extract (64 * j) (padded s).size).extract 0 64)) rfl (r_cut (a := 0) (b := 64) rfl rfl (fun _ => rfl) (fun _ => rfl) rfl rfl rfl rfl (by omega) (by omega) rfl) <| pC 31 rfl rfl (s39t (padded s) j (by omega)) fun n4 hn4 => PQ.op (dst := none) (v := (.tuple #[])) (n1 := n4) (d1 := [(n1, some ⟨[[(W (hs (padded s) (j + 1)).a), (W (hs (padded s) (j + 1)).b), (W (hs (padded s) (j + 1)).c), (W (hs (padded s) (j + 1)).d), (W (hs (padded s) (j + 1)).e)]], 5, 60, true⟩)]) rfl rfl rfl _ (sA (V := []) (by kernel_rfl) (by kernel_rfl)) (rS get_here) (by omega) (kp1 (wr_tight (by kernel_rfl) (by omega))) <| PQ.done (d := [(n1, some ⟨[[(W (hs (padded s) (j + 1)).a), (W (hs (padded s) (j + 1)).b), (W (hs (padded s) (j + 1)).c), (W (hs (padded s) (j + 1)).d), (W (hs (padded s) (j + 1)).e)]], 5, 60, true⟩)]) (by kernel_rfl) fun _ => RA.region env_ok <| OA.ps [(32, (.string ((padded s).extract (64 * j) (padded s).size)))] rfl ?_
  refine oP 33 (.string (((padded s).extract (64 * j) (padded s).size).extract 64 ((padded s).extract (64 * j) (padded s).size).size)) rfl (r_cut (a := 64) (b := ((padded s).extract (64 * j) (padded s).size).size) rfl rfl (fun _ => rfl) (fun _ => rfl) rfl rfl rfl rfl (by omega) (by omega) rfl) <| OA.ps [(4, (.string (((padded s).extract (64 * j) (padded s).size).extract 64 ((padded s).extract (64 * j) (padded s).size).size)))] rfl <| OA.nil ?_
  refine ⟨((padded s).size - 64 * (j + 1)), by omega, [(n1, some ⟨[[(W (hs (padded s) (j + 1)).a), (W (hs (padded s) (j + 1)).b), (W (hs (padded s) (j + 1)).c), (W (hs (padded s) (j + 1)).d), (W (hs (padded s) (j + 1)).e)]], 5, 60, true⟩)], (LsO (fA get_here get_here fan)), (j + 1), rfl, by omega, ⟨rfl, (by show Value.string _ = Value.string _; rw [ext_ext _ _ _ (by omega)]; rfl), trivial⟩, rfl, (kb1 (by omega)), by omega⟩
 ·
  refine oP 27 yF rfl (Eq.trans (r_bin rfl rfl rfl (b_gtr rfl)) (dF hc1)) <| OA.nil fun _ => RA.condF rfl ?_
  refine RA.exit env_ok ?_
  intro _
  refine RA.sR hd env_ok <| OA.ps [(5, (.string (ByteArray.mk #[])))] rfl <| OA.nil fun _ => RA.seq hd <| RA.sR hd env_ok <| oP 34 (.agg ⟨[(W (hs (padded s) j).a), (W (hs (padded s) j).b), (W (hs (padded s) j).c), (W (hs (padded s) j).d), (W (hs (padded s) j).e)]⟩) rfl (r_loadA rfl rfl rfl rfl get_here rfl rfl rfl) <| OA.ps [(35, (.int .i64 0))] rfl <| OA.nil fun _ => RA.block ?_
  refine RA.unroll hd ?_
  refine RA.sR hd env_ok <| oP 36 yT rfl (r_bin rfl rfl rfl (b_lss rfl)) <| OA.nil fun _ => RA.seq hd <| RA.condT rfl <| RA.skip env_ok ?_
  intro _
  refine RA.seq hd <| RA.block <| RA.sR hd env_ok <| oP 37 (W (hs (padded s) j).a) rfl (by kernel_rfl) <| OA.ps [(7, (W (hs (padded s) j).a))] rfl <| OA.nil fun _ => RA.region env_ok <| OA.ps [(38, (.string (ByteArray.mk #[]))), (39, (W (hs (padded s) j).a))] rfl <| oC 40 (hd.of (by omega) (kb1 (by omega))) rfl rfl (s40 _) fun n5 hn5 => oP 41 (.string ((ByteArray.mk #[]) ++ (bstr (be4 (hs (padded s) j).a)))) rfl (r_cat rfl rfl rfl (by (try simp only [ByteArray.size_append, bstr_size, size_lit, List.size_toArray, List.length_cons, List.length_nil, List.length_take, List.length_drop, List.length_replicate, be8_len, be4_len]); try omega)) <| OA.ps [(5, (.string ((ByteArray.mk #[]) ++ (bstr (be4 (hs (padded s) j).a)))))] rfl ?_
  refine OA.nil fun _ => RA.region env_ok <| oP 42 (.int .i64 1) rfl (r_bin rfl rfl rfl (b_add (i64_eq (by omega)))) <| OA.ps [(35, (.int .i64 1))] rfl <| OA.nil fun _ => ?_
  refine RA.unroll hd ?_
  refine RA.sR hd env_ok <| oP 36 yT rfl (r_bin rfl rfl rfl (b_lss rfl)) <| OA.nil fun _ => RA.seq hd <| RA.condT rfl <| RA.skip env_ok ?_
  intro _
  refine RA.seq hd <| RA.block <| RA.sR hd env_ok <| oP 37 (W (hs (padded s) j).b) rfl (by kernel_rfl) <| OA.ps [(7, (W (hs (padded s) j).b))] rfl <| OA.nil fun _ => RA.region env_ok <| OA.ps [(38, (.string ((ByteArray.mk #[]) ++ (bstr (be4 (hs (padded s) j).a))))), (39, (W (hs (padded s) j).b))] rfl <| oC 40 (hd.of (by omega) (kb1 (by omega))) rfl rfl (s40 _) fun n6 hn6 => oP 41 (.string (((ByteArray.mk #[]) ++ (bstr (be4 (hs (padded s) j).a))) ++ (bstr (be4 (hs (padded s) j).b)))) rfl (r_cat rfl rfl rfl (by (try simp only [ByteArray.size_append, bstr_size, size_lit, List.size_toArray, List.length_cons, List.length_nil, List.length_take, List.length_drop, List.length_replicate, be8_len, be4_len]); try omega)) <| OA.ps [(5, (.string (((ByteArray.mk #[]) ++ (bstr (be4 (hs (padded s) j).a))) ++ (bstr (be4 (hs (padded s) j).b)))))] rfl ?_
  refine OA.nil fun _ => RA.region env_ok <| oP 42 (.int .i64 2) rfl (r_bin rfl rfl rfl (b_add (i64_eq (by omega)))) <| OA.ps [(35, (.int .i64 2))] rfl <| OA.nil fun _ => ?_
  refine RA.unroll hd ?_
  refine RA.sR hd env_ok <| oP 36 yT rfl (r_bin rfl rfl rfl (b_lss rfl)) <| OA.nil fun _ => RA.rb [(3, (.pointer (some ⟨n1, 0, some 0⟩))), (4, (.string ((padded s).extract (64 * j) (padded s).size))), (5, (.string (((ByteArray.mk #[]) ++ (bstr (be4 (hs (padded s) j).a))) ++ (bstr (be4 (hs (padded s) j).b))))), (7, (W (hs (padded s) j).b)), (27, yF), (34, (.agg ⟨[(W (hs (padded s) j).a), (W (hs (padded s) j).b), (W (hs (padded s) j).c), (W (hs (padded s) j).d), (W (hs (padded s) j).e)]⟩)), (35, (.int .i64 2)), (36, yT)] rfl (fun τr7 => ?_)
  refine RA.seq hd <| RA.condT rfl <| RA.skip env_ok ?_
  intro _
  refine RA.seq hd <| RA.block <| RA.sR hd env_ok <| oP 37 (W (hs (padded s) j).c) rfl (by kernel_rfl) <| OA.ps [(7, (W (hs (padded s) j).c))] rfl <| OA.nil fun _ => RA.region env_ok <| OA.ps [(38, (.string (((ByteArray.mk #[]) ++ (bstr (be4 (hs (padded s) j).a))) ++ (bstr (be4 (hs (padded s) j).b))))), (39, (W (hs (padded s) j).c))] rfl <| oC 40 (hd.of (by omega) (kb1 (by omega))) rfl rfl (s40 _) fun n8 hn8 => oP 41 (.string ((((ByteArray.mk #[]) ++ (bstr (be4 (hs (padded s) j).a))) ++ (bstr (be4 (hs (padded s) j).b))) ++ (bstr (be4 (hs (padded s) j).c)))) rfl (r_cat rfl rfl rfl (by (try simp only [ByteArray.size_append, bstr_size, size_lit, List.size_toArray, List.length_cons, List.length_nil, List.length_take, List.length_drop, List.length_replicate, be8_len, be4_len]); try omega)) <| OA.ps [(5, (.string ((((ByteArray.mk #[]) ++ (bstr (be4 (hs (padded s) j).a))) ++ (bstr (be4 (hs (padded s) j).b))) ++ (bstr (be4 (hs (padded s) j).c)))))] rfl ?_
  refine OA.nil fun _ => RA.region env_ok <| oP 42 (.int .i64 3) rfl (r_bin rfl rfl rfl (b_add (i64_eq (by omega)))) <| OA.ps [(35, (.int .i64 3))] rfl <| OA.nil fun _ => ?_
  refine RA.unroll hd ?_
  refine RA.sR hd env_ok <| oP 36 yT rfl (r_bin rfl rfl rfl (b_lss rfl)) <| OA.nil fun _ => RA.seq hd <| RA.condT rfl <| RA.skip env_ok ?_
  intro _
  refine RA.seq hd <| RA.block <| RA.sR hd env_ok <| oP 37 (W (hs (padded s) j).d) rfl (by kernel_rfl) <| OA.ps [(7, (W (hs (padded s) j).d))] rfl <| OA.nil fun _ => RA.region env_ok <| OA.ps [(38, (.string ((((ByteArray.mk #[]) ++ (bstr (be4 (hs (padded s) j).a))) ++ (bstr (be4 (hs (padded s) j).b))) ++ (bstr (be4 (hs (padded s) j).c))))), (39, (W (hs (padded s) j).d))] rfl <| oC 40 (hd.of (by omega) (kb1 (by omega))) rfl rfl (s40 _) fun n9 hn9 => oP 41 (.string (((((ByteArray.mk #[]) ++ (bstr (be4 (hs (padded s) j).a))) ++ (bstr (be4 (hs (padded s) j).b))) ++ (bstr (be4 (hs (padded s) j).c))) ++ (bstr (be4 (hs (padded s) j).d)))) rfl (r_cat rfl rfl rfl (by (try simp only [ByteArray.size_append, bstr_size, size_lit, List.size_toArray, List.length_cons, List.length_nil, List.length_take, List.length_drop, List.length_replicate, be8_len, be4_len]); try omega)) <| OA.ps [(5, (.string (((((ByteArray.mk #[]) ++ (bstr (be4 (hs (padded s) j).a))) ++ (bstr (be4 (hs (padded s) j).b))) ++ (bstr (be4 (hs (padded s) j).c))) ++ (bstr (be4 (hs (padded s) j).d)))))] rfl ?_
  refine OA.nil fun _ => RA.region env_ok <| oP 42 (.int .i64 4) rfl (r_bin rfl rfl rfl (b_add (i64_eq (by omega)))) <| OA.ps [(35, (.int .i64 4))] rfl <| OA.nil fun _ => ?_
  refine RA.unroll hd ?_
  refine RA.sR hd env_ok <| oP 36 yT rfl (r_bin rfl rfl rfl (b_lss rfl)) <| OA.nil fun _ => RA.seq hd <| RA.condT rfl <| RA.skip env_ok ?_
  intro _
  refine RA.seq hd <| RA.block <| RA.sR hd env_ok <| oP 37 (W (hs (padded s) j).e) rfl (by kernel_rfl) <| OA.ps [(7, (W (hs (padded s) j).e))] rfl <| OA.nil fun _ => RA.region env_ok <| OA.ps [(38, (.string (((((ByteArray.mk #[]) ++ (bstr (be4 (hs (padded s) j).a))) ++ (bstr (be4 (hs (padded s) j).b))) ++ (bstr (be4 (hs (padded s) j).c))) ++ (bstr (be4 (hs (padded s) j).d))))), (39, (W (hs (padded s) j).e))] rfl <| oC 40 (hd.of (by omega) (kb1 (by omega))) rfl rfl (s40 _) fun n10 hn10 => oP 41 (.string ((((((ByteArray.mk #[]) ++ (bstr (be4 (hs (padded s) j).a))) ++ (bstr (be4 (hs (padded s) j).b))) ++ (bstr (be4 (hs (padded s) j).c))) ++ (bstr (be4 (hs (padded s) j).d))) ++ (bstr (be4 (hs (padded s) j).e)))) rfl (r_cat rfl rfl rfl (by (try simp only [ByteArray.size_append, bstr_size, size_lit, List.size_toArray, List.length_cons, List.length_nil, List.length_take, List.length_drop, List.length_replicate, be8_len, be4_len]); try omega)) <| OA.ps [(5, (.string ((((((ByteArray.mk #[]) ++ (bstr (be4 (hs (padded s) j).a))) ++ (bstr (be4 (hs (padded s) j).b))) ++ (bstr (be4 (hs (padded s) j).c))) ++ (bstr (be4 (hs (padded s) j).d))) ++ (bstr (be4 (hs (padded s) j).e)))))] rfl ?_
  refine OA.nil fun _ => RA.rb [(3, (.pointer (some ⟨n1, 0, some 0⟩))), (4, (.string ((padded s).extract (64 * j) (padded s).size))), (5, (.string ((((((ByteArray.mk #[]) ++ (bstr (be4 (hs (padded s) j).a))) ++ (bstr (be4 (hs (padded s) j).b))) ++ (bstr (be4 (hs (padded s) j).c))) ++ (bstr (be4 (hs (padded s) j).d))) ++ (bstr (be4 (hs (padded s) j).e))))), (7, (W (hs (padded s) j).e)), (27, yF), (34, (.agg ⟨[(W (hs (padded s) j).a), (W (hs (padded s) j).b), (W (hs (padded s) j).c), (W (hs (padded s) j).d), (W (hs (padded s) j).e)]⟩)), (35, (.int .i64 4)), (36, yT)] rfl (fun τr11 => ?_)
  refine RA.region env_ok <| oP 42 (.int .i64 5) rfl (r_bin rfl rfl rfl (b_add (i64_eq (by omega)))) <| OA.ps [(35, (.int .i64 5))] rfl <| OA.nil fun _ => ?_
  refine RA.unroll hd ?_
  refine RA.sR hd env_ok <| oP 36 yF rfl (r_bin rfl rfl rfl (b_lss rfl)) <| OA.nil fun _ => RA.seq hd <| RA.condF rfl ?_
  refine RA.exit env_ok ?_
  intro _
  refine RA.sR hd env_ok <| OA.ps [(43, (.string ((((((ByteArray.mk #[]) ++ (bstr (be4 (hs (padded s) j).a))) ++ (bstr (be4 (hs (padded s) j).b))) ++ (bstr (be4 (hs (padded s) j).c))) ++ (bstr (be4 (hs (padded s) j).d))) ++ (bstr (be4 (hs (padded s) j).e))))), (2, (.string ((((((ByteArray.mk #[]) ++ (bstr (be4 (hs (padded s) j).a))) ++ (bstr (be4 (hs (padded s) j).b))) ++ (bstr (be4 (hs (padded s) j).c))) ++ (bstr (be4 (hs (padded s) j).d))) ++ (bstr (be4 (hs (padded s) j).e)))))] rfl <| OA.nil fun _ => ?_
  refine RA.ret env_ok ?_
  exact lf (.string ((((((ByteArray.mk #[]) ++ (bstr (be4 (hs (padded s) j).a))) ++ (bstr (be4 (hs (padded s) j).b))) ++ (bstr (be4 (hs (padded s) j).c))) ++ (bstr (be4 (hs (padded s) j).d))) ++ (bstr (be4 (hs (padded s) j).e)))) (by rw [one, show j = (padded s).size / 64 from (by omega), out5_eq]; rfl)
end Go.Proofs.Ytdnkhdkflemkeaa.Vt
/- The digest, evaluated. -/
namespace Go.Proofs.Ytdnkhdkflemkeaa.Vt
open Go Go.Proofs Go.Proofs.YtdnkhdkflemkeaaV
set_option maxRecDepth 100000
def wl (f : Nat → BitVec 32) : Nat → List (BitVec 32)
  | 0 => []
  | j + 1 => (match Nat.blt j 16 with
    | true => f j
    | false => rl ((wl f j).getD 2 0 ^^^ (wl f j).getD 7 0 ^^^ (wl f j).getD 13 0 ^^^ (wl f j).getD 15 0) 1) :: wl f j
end Go.Proofs.Ytdnkhdkflemkeaa.Vt
/- Dm1: walks through functions of the program, by the calculus; written by a program of this workplace. -/
namespace Go.Proofs.Ytdnkhdkflemkeaa.Vt
open Go Go.Proofs Go.Proofs.YtdnkhdkflemkeaaV
set_option maxRecDepth 100000
set_option linter.unusedVariables false
set_option linter.unusedSimpArgs false
set_option maxHeartbeats 8000000
theorem sha_size2 (s : ByteArray) : (sha s).size = 20 := rfl
def padK (key : ByteArray) : ByteArray := if 64 < key.size then sha key else key
def padF (key : ByteArray) (b : UInt8) : ByteArray := bstr ((List.range 64).map fun i => (L (padK key)).getD i 0 ^^^ b)
theorem padF_size (key : ByteArray) (b : UInt8) : (padF key b).size = 64 := by rw [padF, bstr_size, List.length_map, List.length_range]
def macF (key s : ByteArray) : ByteArray := sha (padF key 92 ++ sha (padF key 54 ++ s))
theorem macF_size (key s : ByteArray) : (macF key s).size = 20 := rfl
theorem padK_hi {key : ByteArray} (h : 64 < key.size) : padK key = sha key := if_pos h
theorem padK_lo {key : ByteArray} (h : ¬ 64 < key.size) : padK key = key := if_neg h
theorem getD_app0 (l : List UInt8) (m j : Nat) : (l ++ List.replicate m 0).getD j 0 = l.getD j 0 := by
  simp only [List.getD_eq_getElem?_getD]
  rcases Nat.lt_or_ge j l.length with h | h
  · rw [List.getElem?_append_left h]
  · rw [List.getElem?_append_right h, List.getElem?_eq_none h]
    cases hr : (List.replicate m (0 : UInt8))[j - l.length]? with
    | none => rfl
    | some v => rw [List.getElem?_replicate] at hr; split at hr; · cases hr; rfl
                · cases hr
theorem getD_out {l : List UInt8} {j : Nat} (h : l.length ≤ j) : l.getD j 0 = 0 := by
  rw [List.getD_eq_getElem?_getD, List.getElem?_eq_none h]; rfl
theorem getD_rep (m j : Nat) : (List.replicate m (0 : UInt8)).getD j 0 = 0 := by
  have := getD_app0 [] m j
  simpa using this
theorem pad_list {l : List UInt8} {k : ByteArray} {b : UInt8} (h : l.length = 64) (hf : ∀ j, j < 64 → l.getD j 0 = (L k).getD j 0 ^^^ b) : l = (List.range 64).map fun i => (L k).getD i 0 ^^^ b := list_of h hf
theorem pad_done {k key : ByteArray} {c : UInt8} {l : List UInt8} {i : Nat} (hk : padK key = k) (hi : i = 64) (hl : l.length = 64) (hf : ∀ j, j < 64 → l.getD j 0 = if j < i then (L k).getD j 0 ^^^ c else (L k).getD j 0) : one [Value.string (bstr ((l.drop 0).take 64))] = .string (padF key c) := by
  subst hi
  subst hk
  rw [one, List.drop_zero, List.take_of_length_le (by omega), padF]
  exact congrArg Value.string (congrArg bstr (pad_list hl (fun j hj => by rw [hf j hj, if_pos hj])))
theorem get_getD {s : ByteArray} {i : Nat} (h : i < s.size) : s.get! i = (L s).getD i 0 := by
  rw [List.getD_eq_getElem?_getD, L_get s i h]; rfl
theorem string_cast {a b : ByteArray} (h : a = b) : Value.string a = Value.string b := congrArg _ h
theorem s43 {σ : Store} (key : ByteArray) (c : UInt8) (hk : key.size < 4294967296)   : PS Try.prog noDen 43 [(.string key), (.int .u8 ((c.toNat : Nat) : Int))] σ (.string (padF key c)) := by
 refine PS.body (E := env) env_ok rfl rfl (by show _ ≤ _; exact of_decide_eq_true (by kernel_rfl)) (fun n hd => ?_)
 refine RA.sR hd env_ok <| OA.ps [(4, (.string (ByteArray.mk #[])))] rfl <| OA.nil fun _ => RA.seq hd <| RA.sR hd env_ok <| OA.ps [(7, (.string key)), (8, (.int .i64 ((key.size : Nat) : Int)))] rfl ?_
 by_cases hc1 : 64 < ((key.size : Nat) : Int)
 ·
  refine oP 9 yT rfl (Eq.trans (r_bin rfl rfl rfl (b_gtr rfl)) (dT hc1)) <| OA.nil fun _ => RA.condT rfl <| RA.region env_ok <| OA.ps [(10, (.string key))] rfl <| oC 11 (hd.up (by omega)) rfl rfl (s15 key (by omega)) fun n1 hn1 => OA.ps [(0, (.string (sha key)))] rfl <| OA.nil fun _ => RA.sR hd env_ok <| o1 (some 12) (.slice (some ⟨n1, 0, none⟩) 64 0) (n1 + 1) (n1, some ⟨(bc (List.replicate 64 0)), 1, 5, true⟩) (r_makeBytes (K := 64) rfl rfl rfl rfl rfl rfl rfl rfl rfl (by omega)) <| OA.ps [(5, (.slice (some ⟨n1, 0, none⟩) 64 0))] rfl ?_
  refine OA.nil fun _ => RA.sR hd env_ok <| OA.ps [(13, (.slice (some ⟨n1, 0, none⟩) 64 0)), (14, (.string (sha key)))] rfl <| o1 (some 15) (.int .i64 (((sha key).size : Nat) : Int)) (n1 + 1) (n1, some ⟨(bc (L (sha key) ++ (List.replicate 64 0).drop (sha key).size)), 1, 5, true⟩) (r_copyS (N := 64) rfl rfl rfl rfl rfl rfl rfl rfl get_here (by first | rfl | (rw [List.length_replicate])) (by rw [sha_size2]; omega) (by rw [sha_size2]; decide)) <| OA.nil fun _ => RA.seq hd <| RA.sR hd env_ok <| OA.ps [(16, (.slice (some ⟨n1, 0, none⟩) 64 0)), (17, (.int .i64 64)), (18, (.int .i64 0))] rfl <| OA.nil fun _ => RA.block <| RA.weaken hd (LsO (fA get_here get_here fan)) ?_
  refine RA.loop hd (fun kk_ τ n' D => ∃ i : Nat, ∃ l : List UInt8,  kk_ = (64 - i) ∧ (n1 + 1) ≤ n' ∧ Has τ [(1, (.int .u8 ((c.toNat : Nat) : Int))), (5, (.slice (some ⟨n1, 0, none⟩) 64 0)), (17, (.int .i64 64)), (18, (.int .i64 ((i : Nat) : Int)))] ∧ D = [(n1, some ⟨(bc l), 1, 5, true⟩)] ∧ (∀ i ∈ keys D, i < n') ∧ i ≤ 64 ∧ l.length = 64 ∧ ∀ j, j < 64 → l.getD j 0 = if j < i then (L (sha key)).getD j 0 ^^^ c else (L (sha key)).getD j 0) ((64 - 0)) ⟨0, (L (sha key) ++ (List.replicate 64 0).drop (sha key).size), rfl, by omega, ⟨rfl, rfl, rfl, rfl, trivial⟩, rfl, (kb1 (by omega)), ⟨by omega, by first | (rw [copy_len (List.replicate 64 0) (sha key) (by first | omega | (simp only [List.length_replicate, sha_size2]; omega))]; done) | exact (copy_len (List.replicate 64 0) (sha key) (by first | omega | (simp only [List.length_replicate, sha_size2]; omega))), fun j hj => by rw [if_neg (by omega), List.drop_replicate, getD_app0]⟩⟩ ?_
  rintro kn2 τ2 n2 _ ⟨i, l, rfl, hn2, hHn2, rfl, hKn2, hIn2⟩
  rw [Has.eq hHn2]
  have hKn2_0 := kk0 hKn2
  simp only [keys, List.map, List.forall_mem_cons, List.mem_cons, List.not_mem_nil, false_imp_iff, implies_true, and_true] at hKn2
  obtain ⟨hi, hl, hf⟩ := hIn2
  refine RA.sR hd env_ok ?_
  by_cases hc2 : ((i : Nat) : Int) < 64
  ·
   refine oP 19 yT rfl (Eq.trans (r_bin rfl rfl rfl (b_lss rfl)) (dT hc2)) <| OA.nil fun _ => RA.seq hd <| RA.condT rfl <| RA.skip env_ok ?_
   intro _
   refine RA.seq hd <| RA.block <| RA.sR hd env_ok <| OA.ps [(20, (.int .i64 ((i : Nat) : Int))), (6, (.int .i64 ((i : Nat) : Int)))] rfl <| OA.nil fun _ => RA.region env_ok <| OA.ps [(21, (.slice (some ⟨n1, 0, none⟩) 64 0)), (22, (.int .i64 ((i : Nat) : Int)))] rfl <| oP 23 (.pointer (some ⟨n1, i, some 0⟩)) rfl (r_iaS (l := i) rfl rfl rfl rfl rfl rfl (by omega) (by omega) get_here rfl (by omega)) <| oP 24 (.int .u8 (((l.getD i 0).toNat : Nat) : Int)) rfl (r_loadB rfl rfl rfl rfl rfl get_here (by rw [hl]; omega)) <| OA.ps [(25, (.int .u8 ((c.toNat : Nat) : Int)))] rfl <| oP 26 (.int .u8 ((((l.getD i 0) ^^^ c).toNat : Nat) : Int)) rfl (r_bin rfl rfl rfl (b_xor8 (l.getD i 0) c)) ?_
   refine oP 27 (.pointer (some ⟨n1, i, some 0⟩)) rfl (r_iaS (l := i) rfl rfl rfl rfl rfl rfl (by omega) (by omega) get_here rfl (by omega)) <| o1 none yU n2 (n1, some ⟨(bc (l.set i ((l.getD i 0) ^^^ c))), 1, 5, true⟩) (r_storeB (B' := ((l.getD i 0) ^^^ c)) rfl rfl rfl rfl rfl get_here (by rw [hl]; omega)) <| OA.nil fun _ => RA.region env_ok <| oP 28 (.int .i64 (((i + 1) : Nat) : Int)) rfl (r_bin rfl rfl rfl (b_add (i64_eq (by omega)))) <| OA.ps [(18, (.int .i64 (((i + 1) : Nat) : Int)))] rfl <| OA.nil ?_
   refine ⟨(64 - (i + 1)), by omega, [(n1, some ⟨(bc (l.set i ((l.getD i 0) ^^^ c))), 1, 5, true⟩)], (LsO (fA get_here get_here fan)), (i + 1), (l.set i ((l.getD i 0) ^^^ c)), rfl, by omega, ⟨rfl, rfl, rfl, rfl, trivial⟩, rfl, (kb1 (by omega)), ⟨by omega, by rw [List.length_set]; exact hl, fun j hj => (Nat.lt_trichotomy j i).elim (fun h => by rw [lset_ne (by omega), hf j hj, if_pos h, if_pos (by omega)]) (fun h => h.elim (fun h => by subst h; rw [lset_self (by omega), hf _ hj, if_neg (by omega), if_pos (by omega)]) (fun h => by rw [lset_ne (by omega), hf j hj, if_neg (by omega), if_neg (by omega)]))⟩⟩
  ·
   refine oP 19 yF rfl (Eq.trans (r_bin rfl rfl rfl (b_lss rfl)) (dF hc2)) <| OA.nil fun _ => RA.seq hd <| RA.condF rfl ?_
   refine RA.exit env_ok ?_
   intro _
   refine RA.sR hd env_ok <| OA.ps [(29, (.slice (some ⟨n1, 0, none⟩) 64 0))] rfl <| oP 30 (.string (bstr ((l.drop 0).take 64))) rfl (r_b2s rfl rfl rfl rfl rfl rfl rfl rfl get_here (by rw [hl]; omega)) <| OA.ps [(4, (.string (bstr ((l.drop 0).take 64))))] rfl <| OA.nil fun _ => ?_
   refine RA.ret env_ok ?_
   exact lf (.string (bstr ((l.drop 0).take 64))) (by first | exact pad_done (padK_hi (by omega)) (by omega) hl hf | exact pad_done (padK_lo (by omega)) (by omega) hl hf)
 ·
  refine oP 9 yF rfl (Eq.trans (r_bin rfl rfl rfl (b_gtr rfl)) (dF hc1)) <| OA.nil fun _ => RA.condF rfl <| RA.skip env_ok ?_
  intro _
  refine RA.sR hd env_ok <| o1 (some 12) (.slice (some ⟨n, 0, none⟩) 64 0) (n + 1) (n, some ⟨(bc (List.replicate 64 0)), 1, 5, true⟩) (r_makeBytes (K := 64) rfl rfl rfl rfl rfl rfl rfl rfl rfl (by omega)) <| OA.ps [(5, (.slice (some ⟨n, 0, none⟩) 64 0))] rfl <| OA.nil fun _ => RA.sR hd env_ok <| OA.ps [(13, (.slice (some ⟨n, 0, none⟩) 64 0)), (14, (.string key))] rfl ?_
  by_cases hc3 : key.size = 0
  ·
   refine oP 15 (.int .i64 0) rfl (r_copyS0 rfl rfl rfl rfl rfl rfl rfl rfl hc3) <| OA.nil fun _ => RA.seq hd <| RA.sR hd env_ok <| OA.ps [(16, (.slice (some ⟨n, 0, none⟩) 64 0)), (17, (.int .i64 64)), (18, (.int .i64 0))] rfl <| OA.nil fun _ => RA.block ?_
   refine RA.loop hd (fun kk_ τ n' D => ∃ i : Nat, ∃ l : List UInt8,  kk_ = (64 - i) ∧ (n + 1) ≤ n' ∧ Has τ [(1, (.int .u8 ((c.toNat : Nat) : Int))), (5, (.slice (some ⟨n, 0, none⟩) 64 0)), (17, (.int .i64 64)), (18, (.int .i64 ((i : Nat) : Int)))] ∧ D = [(n, some ⟨(bc l), 1, 5, true⟩)] ∧ (∀ i ∈ keys D, i < n') ∧ i ≤ 64 ∧ l.length = 64 ∧ ∀ j, j < 64 → l.getD j 0 = if j < i then (L key).getD j 0 ^^^ c else (L key).getD j 0) ((64 - 0)) ⟨0, (List.replicate 64 0), rfl, by omega, ⟨rfl, rfl, rfl, rfl, trivial⟩, rfl, (kb1 (by omega)), ⟨by omega, by first | (rw [List.length_replicate]; done) | exact (List.length_replicate), fun j hj => by rw [if_neg (by omega), getD_rep, getD_out (by rw [L_len]; omega)]⟩⟩ ?_
   rintro kn3 τ3 n3 _ ⟨i, l, rfl, hn3, hHn3, rfl, hKn3, hIn3⟩
   rw [Has.eq hHn3]
   have hKn3_0 := kk0 hKn3
   simp only [keys, List.map, List.forall_mem_cons, List.mem_cons, List.not_mem_nil, false_imp_iff, implies_true, and_true] at hKn3
   obtain ⟨hi, hl, hf⟩ := hIn3
   refine RA.sR hd env_ok ?_
   by_cases hc4 : ((i : Nat) : Int) < 64
   ·
    refine oP 19 yT rfl (Eq.trans (r_bin rfl rfl rfl (b_lss rfl)) (dT hc4)) <| OA.nil fun _ => RA.seq hd <| RA.condT rfl <| RA.skip env_ok ?_
    intro _
    refine RA.seq hd <| RA.block <| RA.sR hd env_ok <| OA.ps [(20, (.int .i64 ((i : Nat) : Int))), (6, (.int .i64 ((i : Nat) : Int)))] rfl <| OA.nil fun _ => RA.region env_ok <| OA.ps [(21, (.slice (some ⟨n, 0, none⟩) 64 0)), (22, (.int .i64 ((i : Nat) : Int)))] rfl <| oP 23 (.pointer (some ⟨n, i, some 0⟩)) rfl (r_iaS (l := i) rfl rfl rfl rfl rfl rfl (by omega) (by omega) get_here rfl (by omega)) <| oP 24 (.int .u8 (((l.getD i 0).toNat : Nat) : Int)) rfl (r_loadB rfl rfl rfl rfl rfl get_here (by rw [hl]; omega)) <| OA.ps [(25, (.int .u8 ((c.toNat : Nat) : Int)))] rfl <| oP 26 (.int .u8 ((((l.getD i 0) ^^^ c).toNat : Nat) : Int)) rfl (r_bin rfl rfl rfl (b_xor8 (l.getD i 0) c)) ?_
    refine oP 27 (.pointer (some ⟨n, i, some 0⟩)) rfl (r_iaS (l := i) rfl rfl rfl rfl rfl rfl (by omega) (by omega) get_here rfl (by omega)) <| o1 none yU n3 (n, some ⟨(bc (l.set i ((l.getD i 0) ^^^ c))), 1, 5, true⟩) (r_storeB (B' := ((l.getD i 0) ^^^ c)) rfl rfl rfl rfl rfl get_here (by rw [hl]; omega)) <| OA.nil fun _ => RA.region env_ok <| oP 28 (.int .i64 (((i + 1) : Nat) : Int)) rfl (r_bin rfl rfl rfl (b_add (i64_eq (by omega)))) <| OA.ps [(18, (.int .i64 (((i + 1) : Nat) : Int)))] rfl <| OA.nil ?_
    refine ⟨(64 - (i + 1)), by omega, [(n, some ⟨(bc (l.set i ((l.getD i 0) ^^^ c))), 1, 5, true⟩)], (LsO (fA get_here get_here fan)), (i + 1), (l.set i ((l.getD i 0) ^^^ c)), rfl, by omega, ⟨rfl, rfl, rfl, rfl, trivial⟩, rfl, (kb1 (by omega)), ⟨by omega, by rw [List.length_set]; exact hl, fun j hj => (Nat.lt_trichotomy j i).elim (fun h => by rw [lset_ne (by omega), hf j hj, if_pos h, if_pos (by omega)]) (fun h => h.elim (fun h => by subst h; rw [lset_self (by omega), hf _ hj, if_neg (by omega), if_pos (by omega)]) (fun h => by rw [lset_ne (by omega), hf j hj, if_neg (by omega), if_neg (by omega)]))⟩⟩
   ·
    refine oP 19 yF rfl (Eq.trans (r_bin rfl rfl rfl (b_lss rfl)) (dF hc4)) <| OA.nil fun _ => RA.seq hd <| RA.condF rfl ?_
    refine RA.exit env_ok ?_
    intro _
    refine RA.sR hd env_ok <| OA.ps [(29, (.slice (some ⟨n, 0, none⟩) 64 0))] rfl <| oP 30 (.string (bstr ((l.drop 0).take 64))) rfl (r_b2s rfl rfl rfl rfl rfl rfl rfl rfl get_here (by rw [hl]; omega)) <| OA.ps [(4, (.string (bstr ((l.drop 0).take 64))))] rfl <| OA.nil fun _ => ?_
    refine RA.ret env_ok ?_
    exact lf (.string (bstr ((l.drop 0).take 64))) (by first | exact pad_done (padK_hi (by omega)) (by omega) hl hf | exact pad_done (padK_lo (by omega)) (by omega) hl hf)
  ·
   refine o1 (some 15) (.int .i64 ((key.size : Nat) : Int)) (n + 1) (n, some ⟨(bc (L key ++ (List.replicate 64 0).drop key.size)), 1, 5, true⟩) (r_copyS (N := 64) rfl rfl rfl rfl rfl rfl rfl rfl get_here (by first | rfl | (rw [List.length_replicate])) (by omega) hc3) <| OA.nil fun _ => RA.seq hd <| RA.sR hd env_ok <| OA.ps [(16, (.slice (some ⟨n, 0, none⟩) 64 0)), (17, (.int .i64 64)), (18, (.int .i64 0))] rfl <| OA.nil fun _ => RA.block <| RA.weaken hd (LsO (fA get_here get_here fan)) ?_
   refine RA.loop hd (fun kk_ τ n' D => ∃ i : Nat, ∃ l : List UInt8,  kk_ = (64 - i) ∧ (n + 1) ≤ n' ∧ Has τ [(1, (.int .u8 ((c.toNat : Nat) : Int))), (5, (.slice (some ⟨n, 0, none⟩) 64 0)), (17, (.int .i64 64)), (18, (.int .i64 ((i : Nat) : Int)))] ∧ D = [(n, some ⟨(bc l), 1, 5, true⟩)] ∧ (∀ i ∈ keys D, i < n') ∧ i ≤ 64 ∧ l.length = 64 ∧ ∀ j, j < 64 → l.getD j 0 = if j < i then (L key).getD j 0 ^^^ c else (L key).getD j 0) ((64 - 0)) ⟨0, (L key ++ (List.replicate 64 0).drop key.size), rfl, by omega, ⟨rfl, rfl, rfl, rfl, trivial⟩, rfl, (kb1 (by omega)), ⟨by omega, by first | (rw [copy_len (List.replicate 64 0) key (by first | omega | (simp only [List.length_replicate, List.length_replicate]; omega))]; done) | exact (copy_len (List.replicate 64 0) key (by first | omega | (simp only [List.length_replicate, List.length_replicate]; omega))), fun j hj => by rw [if_neg (by omega), List.drop_replicate, getD_app0]⟩⟩ ?_
   rintro kn4 τ4 n4 _ ⟨i, l, rfl, hn4, hHn4, rfl, hKn4, hIn4⟩
   rw [Has.eq hHn4]
   have hKn4_0 := kk0 hKn4
   simp only [keys, List.map, List.forall_mem_cons, List.mem_cons, List.not_mem_nil, false_imp_iff, implies_true, and_true] at hKn4
   obtain ⟨hi, hl, hf⟩ := hIn4
   refine RA.sR hd env_ok ?_
   by_cases hc5 : ((i : Nat) : Int) < 64
   ·
    refine oP 19 yT rfl (Eq.trans (r_bin rfl rfl rfl (b_lss rfl)) (dT hc5)) <| OA.nil fun _ => RA.seq hd <| RA.condT rfl <| RA.skip env_ok ?_
    intro _
    refine RA.seq hd <| RA.block <| RA.sR hd env_ok <| OA.ps [(20, (.int .i64 ((i : Nat) : Int))), (6, (.int .i64 ((i : Nat) : Int)))] rfl <| OA.nil fun _ => RA.region env_ok <| OA.ps [(21, (.slice (some ⟨n, 0, none⟩) 64 0)), (22, (.int .i64 ((i : Nat) : Int)))] rfl <| oP 23 (.pointer (some ⟨n, i, some 0⟩)) rfl (r_iaS (l := i) rfl rfl rfl rfl rfl rfl (by omega) (by omega) get_here rfl (by omega)) <| oP 24 (.int .u8 (((l.getD i 0).toNat : Nat) : Int)) rfl (r_loadB rfl rfl rfl rfl rfl get_here (by rw [hl]; omega)) <| OA.ps [(25, (.int .u8 ((c.toNat : Nat) : Int)))] rfl <| oP 26 (.int .u8 ((((l.getD i 0) ^^^ c).toNat : Nat) : Int)) rfl (r_bin rfl rfl rfl (b_xor8 (l.getD i 0) c)) ?_
    refine oP 27 (.pointer (some ⟨n, i, some 0⟩)) rfl (r_iaS (l := i) rfl rfl rfl rfl rfl rfl (by omega) (by omega) get_here rfl (by omega)) <| o1 none yU n4 (n, some ⟨(bc (l.set i ((l.getD i 0) ^^^ c))), 1, 5, true⟩) (r_storeB (B' := ((l.getD i 0) ^^^ c)) rfl rfl rfl rfl rfl get_here (by rw [hl]; omega)) <| OA.nil fun _ => RA.region env_ok <| oP 28 (.int .i64 (((i + 1) : Nat) : Int)) rfl (r_bin rfl rfl rfl (b_add (i64_eq (by omega)))) <| OA.ps [(18, (.int .i64 (((i + 1) : Nat) : Int)))] rfl <| OA.nil ?_
    refine ⟨(64 - (i + 1)), by omega, [(n, some ⟨(bc (l.set i ((l.getD i 0) ^^^ c))), 1, 5, true⟩)], (LsO (fA get_here get_here fan)), (i + 1), (l.set i ((l.getD i 0) ^^^ c)), rfl, by omega, ⟨rfl, rfl, rfl, rfl, trivial⟩, rfl, (kb1 (by omega)), ⟨by omega, by rw [List.length_set]; exact hl, fun j hj => (Nat.lt_trichotomy j i).elim (fun h => by rw [lset_ne (by omega), hf j hj, if_pos h, if_pos (by omega)]) (fun h => h.elim (fun h => by subst h; rw [lset_self (by omega), hf _ hj, if_neg (by omega), if_pos (by omega)]) (fun h => by rw [lset_ne (by omega), hf j hj, if_neg (by omega), if_neg (by omega)]))⟩⟩
   ·
    refine oP 19 yF rfl (Eq.trans (r_bin rfl rfl rfl (b_lss rfl)) (dF hc5)) <| OA.nil fun _ => RA.seq hd <| RA.condF rfl ?_
    refine RA.exit env_ok ?_
    intro _
    refine RA.sR hd env_ok <| OA.ps [(29, (.slice (some ⟨n, 0, none⟩) 64 0))] rfl <| oP 30 (.string (bstr ((l.drop 0).take 64))) rfl (r_b2s rfl rfl rfl rfl rfl rfl rfl rfl get_here (by rw [hl]; omega)) <| OA.ps [(4, (.string (bstr ((l.drop 0).take 64))))] rfl <| OA.nil fun _ => ?_
    refine RA.ret env_ok ?_
    exact lf (.string (bstr ((l.drop 0).take 64))) (by first | exact pad_done (padK_hi (by omega)) (by omega) hl hf | exact pad_done (padK_lo (by omega)) (by omega) hl hf)
theorem s44 {σ : Store} (key : ByteArray) (c : UInt8) (hk : key.size < 4294967296)   : PS Try.prog noDen 44 [(.string key), (.int .u8 ((c.toNat : Nat) : Int))] σ (.string (padF key c)) := by
 refine PS.body (E := env) env_ok rfl rfl (by show _ ≤ _; exact of_decide_eq_true (by kernel_rfl)) (fun n hd => ?_)
 refine RA.sR hd env_ok <| OA.ps [(4, (.string (ByteArray.mk #[])))] rfl <| OA.nil fun _ => RA.sR hd env_ok <| OA.ps [(9, (.string key)), (5, (.string key))] rfl <| OA.nil fun _ => RA.seq hd <| RA.sR hd env_ok <| OA.ps [(10, (.string key)), (11, (.int .i64 ((key.size : Nat) : Int)))] rfl ?_
 by_cases hc1 : 64 < ((key.size : Nat) : Int)
 ·
  refine oP 12 yT rfl (Eq.trans (r_bin rfl rfl rfl (b_gtr rfl)) (dT hc1)) <| OA.nil fun _ => RA.condT rfl <| RA.region env_ok <| OA.ps [(13, (.string key))] rfl <| oC 14 (hd.up (by omega)) rfl rfl (s16 key (by omega)) fun n1 hn1 => OA.ps [(5, (.string (sha key)))] rfl <| OA.nil fun _ => RA.sR hd env_ok <| OA.ps [(6, (.string (ByteArray.mk #[])))] rfl <| OA.nil fun _ => ?_
  refine RA.seq hd <| RA.sR hd env_ok <| OA.ps [(7, (.int .i64 0))] rfl <| OA.nil fun _ => RA.block ?_
  have hqs : (sha key).size = 20 := rfl
  refine RA.loop hd (fun kk_ τ n' D => ∃ i : Nat,  kk_ = (64 - i) ∧ n1 ≤ n' ∧ Has τ [(1, (.int .u8 ((c.toNat : Nat) : Int))), (5, (.string (sha key))), (6, (.string (bstr ((List.range i).map fun j => (L (sha key)).getD j 0 ^^^ c)))), (7, (.int .i64 ((i : Nat) : Int)))] ∧ D = [] ∧ (∀ i ∈ keys D, i < n') ∧ i ≤ 64) ((64 - 0)) ⟨0, rfl, by omega, ⟨rfl, rfl, rfl, rfl, trivial⟩, rfl, (fun i hi => by cases hi), by omega⟩ ?_
  rintro kn2 τ2 n2 _ ⟨i, rfl, hn2, hHn2, rfl, hKn2, hIn2⟩
  rw [Has.eq hHn2]
  simp only [keys, List.map, List.forall_mem_cons, List.mem_cons, List.not_mem_nil, false_imp_iff, implies_true, and_true] at hKn2
  refine RA.seq hd <| RA.sR hd env_ok <| OA.ps [(15, (.int .i64 ((i : Nat) : Int)))] rfl ?_
  by_cases hc2 : ((i : Nat) : Int) < 64
  ·
   refine oP 16 yT rfl (Eq.trans (r_bin rfl rfl rfl (b_lss rfl)) (dT hc2)) <| OA.nil fun _ => RA.condT rfl <| RA.skip env_ok ?_
   intro _
   refine RA.seq hd <| RA.block <| RA.sR hd env_ok <| OA.ps [(19, (.int .u8 ((c.toNat : Nat) : Int))), (8, (.int .u8 ((c.toNat : Nat) : Int)))] rfl <| OA.nil fun _ => RA.seq hd <| RA.sR hd env_ok <| OA.ps [(20, (.int .i64 ((i : Nat) : Int))), (21, (.string (sha key)))] rfl <| oP 22 (.int .i64 20) rfl (Eq.trans (show _ = some (Value.int .i64 (((sha key).size : Nat) : Int), _, []) from rfl) (by rw [sha_size2] <;> rfl)) ?_
   by_cases hc3 : ((i : Nat) : Int) < 20
   ·
    refine oP 23 yT rfl (Eq.trans (r_bin rfl rfl rfl (b_lss rfl)) (dT hc3)) <| OA.nil fun _ => RA.condT rfl <| RA.region env_ok <| OA.ps [(24, (.int .u8 ((c.toNat : Nat) : Int))), (25, (.string (sha key))), (26, (.int .i64 ((i : Nat) : Int)))] rfl <| oP 27 (.int .u8 (((sha key).get! i).toNat : Nat)) rfl (r_idxS (l := i) rfl rfl rfl rfl rfl (by omega) (by omega)) <| oP 28 (.int .u8 (((c ^^^ ((sha key).get! i)).toNat : Nat) : Int)) rfl (r_bin rfl rfl rfl (b_xor8 c ((sha key).get! i))) <| OA.ps [(8, (.int .u8 (((c ^^^ ((sha key).get! i)).toNat : Nat) : Int)))] rfl <| OA.nil fun _ => RA.region env_ok <| OA.ps [(29, (.string (bstr ((List.range i).map fun j => (L (sha key)).getD j 0 ^^^ c)))), (30, (.int .u8 (((c ^^^ ((sha key).get! i)).toNat : Nat) : Int)))] rfl ?_
    refine o1 (some 31) (.slice (some ⟨n2, 0, none⟩) 1 0) (n2 + 1) (n2, some ⟨(bc [(c ^^^ ((sha key).get! i))]), 1, 5, true⟩) (by kernel_rfl) <| oP 32 (.string (bstr (([(c ^^^ ((sha key).get! i))].drop 0).take 1))) rfl (r_b2s rfl rfl rfl rfl rfl rfl rfl rfl get_here (by rw [show ([(c ^^^ ((sha key).get! i))] : List UInt8).length = 1 from rfl]; omega)) <| oP 33 (.string ((bstr ((List.range i).map fun j => (L (sha key)).getD j 0 ^^^ c)) ++ (bstr (([(c ^^^ ((sha key).get! i))].drop 0).take 1)))) rfl (r_cat rfl rfl rfl (by (try simp only [ByteArray.size_append, bstr_size, size_lit, List.size_toArray, List.length_cons, List.length_nil, List.length_take, List.length_drop, List.length_replicate, List.length_map, List.length_range]); try omega)) <| OA.ps [(6, (.string ((bstr ((List.range i).map fun j => (L (sha key)).getD j 0 ^^^ c)) ++ (bstr (([(c ^^^ ((sha key).get! i))].drop 0).take 1)))))] rfl <| OA.nil fun _ => RA.region env_ok <| OA.ps [(17, (.int .i64 ((i : Nat) : Int)))] rfl <| oP 18 (.int .i64 (((i + 1) : Nat) : Int)) rfl (r_bin rfl rfl rfl (b_add (i64_eq (by omega)))) <| OA.ps [(7, (.int .i64 (((i + 1) : Nat) : Int)))] rfl <| OA.nil ?_
    refine ⟨(64 - (i + 1)), by omega, [], (LsO fan), (i + 1), rfl, by omega, ⟨rfl, rfl, (by show Value.string _ = Value.string _; rw [List.drop_zero, List.take_of_length_le (Nat.le_refl 1), bstr_app, List.range_succ, List.map_append]; refine string_cast (congrArg bstr (congrArg _ ?_)); rw [get_getD (by first | omega | (rw [sha_size2]; omega))]; exact congrArg (fun z => [z]) (UInt8.xor_comm _ _)), rfl, trivial⟩, rfl, (fun i hi => by cases hi), by omega⟩
   ·
    refine oP 23 yF rfl (Eq.trans (r_bin rfl rfl rfl (b_lss rfl)) (dF hc3)) <| OA.nil fun _ => RA.condF rfl <| RA.skip env_ok ?_
    intro _
    refine RA.region env_ok <| OA.ps [(29, (.string (bstr ((List.range i).map fun j => (L (sha key)).getD j 0 ^^^ c)))), (30, (.int .u8 ((c.toNat : Nat) : Int)))] rfl <| o1 (some 31) (.slice (some ⟨n2, 0, none⟩) 1 0) (n2 + 1) (n2, some ⟨(bc [c]), 1, 5, true⟩) (by kernel_rfl) <| oP 32 (.string (bstr (([c].drop 0).take 1))) rfl (r_b2s rfl rfl rfl rfl rfl rfl rfl rfl get_here (by rw [show ([c] : List UInt8).length = 1 from rfl]; omega)) <| oP 33 (.string ((bstr ((List.range i).map fun j => (L (sha key)).getD j 0 ^^^ c)) ++ (bstr (([c].drop 0).take 1)))) rfl (r_cat rfl rfl rfl (by (try simp only [ByteArray.size_append, bstr_size, size_lit, List.size_toArray, List.length_cons, List.length_nil, List.length_take, List.length_drop, List.length_replicate, List.length_map, List.length_range]); try omega)) <| OA.ps [(6, (.string ((bstr ((List.range i).map fun j => (L (sha key)).getD j 0 ^^^ c)) ++ (bstr (([c].drop 0).take 1)))))] rfl <| OA.nil fun _ => RA.region env_ok <| OA.ps [(17, (.int .i64 ((i : Nat) : Int)))] rfl <| oP 18 (.int .i64 (((i + 1) : Nat) : Int)) rfl (r_bin rfl rfl rfl (b_add (i64_eq (by omega)))) <| OA.ps [(7, (.int .i64 (((i + 1) : Nat) : Int)))] rfl ?_
    refine OA.nil ?_
    refine ⟨(64 - (i + 1)), by omega, [], (LsO fan), (i + 1), rfl, by omega, ⟨rfl, rfl, (by show Value.string _ = Value.string _; rw [List.drop_zero, List.take_of_length_le (Nat.le_refl 1), bstr_app, List.range_succ, List.map_append]; refine string_cast (congrArg bstr (congrArg _ ?_)); show [c] = [(L (sha key)).getD i 0 ^^^ c]; rw [getD_out (by rw [L_len]; first | omega | (rw [sha_size2]; omega)), UInt8.zero_xor]), rfl, trivial⟩, rfl, (fun i hi => by cases hi), by omega⟩
  ·
   refine oP 16 yF rfl (Eq.trans (r_bin rfl rfl rfl (b_lss rfl)) (dF hc2)) <| OA.nil fun _ => RA.condF rfl ?_
   refine RA.exit env_ok ?_
   intro _
   refine RA.sR hd env_ok <| OA.ps [(34, (.string (bstr ((List.range i).map fun j => (L (sha key)).getD j 0 ^^^ c)))), (4, (.string (bstr ((List.range i).map fun j => (L (sha key)).getD j 0 ^^^ c))))] rfl <| OA.nil fun _ => ?_
   refine RA.ret env_ok ?_
   exact lf (.string (bstr ((List.range i).map fun j => (L (sha key)).getD j 0 ^^^ c))) (by first | (rw [show i = 64 from (by omega), one, padF, padK_hi (by omega)]; done) | (rw [show i = 64 from (by omega), one, padF, padK_lo (by omega)]; done) | (rw [show i = 64 from (by omega), one, padF, padK_hi (by omega)]; rfl) | (rw [show i = 64 from (by omega), one, padF, padK_lo (by omega)]; rfl))
 ·
  refine oP 12 yF rfl (Eq.trans (r_bin rfl rfl rfl (b_gtr rfl)) (dF hc1)) <| OA.nil fun _ => RA.condF rfl <| RA.skip env_ok ?_
  intro _
  refine RA.sR hd env_ok <| OA.ps [(6, (.string (ByteArray.mk #[])))] rfl <| OA.nil fun _ => RA.seq hd <| RA.sR hd env_ok <| OA.ps [(7, (.int .i64 0))] rfl <| OA.nil fun _ => RA.block ?_
  refine RA.loop hd (fun kk_ τ n' D => ∃ i : Nat,  kk_ = (64 - i) ∧ n ≤ n' ∧ Has τ [(1, (.int .u8 ((c.toNat : Nat) : Int))), (5, (.string key)), (6, (.string (bstr ((List.range i).map fun j => (L key).getD j 0 ^^^ c)))), (7, (.int .i64 ((i : Nat) : Int)))] ∧ D = [] ∧ (∀ i ∈ keys D, i < n') ∧ i ≤ 64) ((64 - 0)) ⟨0, rfl, by omega, ⟨rfl, rfl, rfl, rfl, trivial⟩, rfl, (fun i hi => by cases hi), by omega⟩ ?_
  rintro kn3 τ3 n3 _ ⟨i, rfl, hn3, hHn3, rfl, hKn3, hIn3⟩
  rw [Has.eq hHn3]
  simp only [keys, List.map, List.forall_mem_cons, List.mem_cons, List.not_mem_nil, false_imp_iff, implies_true, and_true] at hKn3
  refine RA.seq hd <| RA.sR hd env_ok <| OA.ps [(15, (.int .i64 ((i : Nat) : Int)))] rfl ?_
  by_cases hc4 : ((i : Nat) : Int) < 64
  ·
   refine oP 16 yT rfl (Eq.trans (r_bin rfl rfl rfl (b_lss rfl)) (dT hc4)) <| OA.nil fun _ => RA.condT rfl <| RA.skip env_ok ?_
   intro _
   refine RA.seq hd <| RA.block <| RA.sR hd env_ok <| OA.ps [(19, (.int .u8 ((c.toNat : Nat) : Int))), (8, (.int .u8 ((c.toNat : Nat) : Int)))] rfl <| OA.nil fun _ => RA.seq hd <| RA.sR hd env_ok <| OA.ps [(20, (.int .i64 ((i : Nat) : Int))), (21, (.string key)), (22, (.int .i64 ((key.size : Nat) : Int)))] rfl ?_
   by_cases hc5 : ((i : Nat) : Int) < ((key.size : Nat) : Int)
   ·
    refine oP 23 yT rfl (Eq.trans (r_bin rfl rfl rfl (b_lss rfl)) (dT hc5)) <| OA.nil fun _ => RA.condT rfl <| RA.region env_ok <| OA.ps [(24, (.int .u8 ((c.toNat : Nat) : Int))), (25, (.string key)), (26, (.int .i64 ((i : Nat) : Int)))] rfl <| oP 27 (.int .u8 ((key.get! i).toNat : Nat)) rfl (r_idxS (l := i) rfl rfl rfl rfl rfl (by omega) (by omega)) <| oP 28 (.int .u8 (((c ^^^ (key.get! i)).toNat : Nat) : Int)) rfl (r_bin rfl rfl rfl (b_xor8 c (key.get! i))) <| OA.ps [(8, (.int .u8 (((c ^^^ (key.get! i)).toNat : Nat) : Int)))] rfl <| OA.nil fun _ => RA.region env_ok <| OA.ps [(29, (.string (bstr ((List.range i).map fun j => (L key).getD j 0 ^^^ c)))), (30, (.int .u8 (((c ^^^ (key.get! i)).toNat : Nat) : Int)))] rfl ?_
    refine o1 (some 31) (.slice (some ⟨n3, 0, none⟩) 1 0) (n3 + 1) (n3, some ⟨(bc [(c ^^^ (key.get! i))]), 1, 5, true⟩) (by kernel_rfl) <| oP 32 (.string (bstr (([(c ^^^ (key.get! i))].drop 0).take 1))) rfl (r_b2s rfl rfl rfl rfl rfl rfl rfl rfl get_here (by rw [show ([(c ^^^ (key.get! i))] : List UInt8).length = 1 from rfl]; omega)) <| oP 33 (.string ((bstr ((List.range i).map fun j => (L key).getD j 0 ^^^ c)) ++ (bstr (([(c ^^^ (key.get! i))].drop 0).take 1)))) rfl (r_cat rfl rfl rfl (by (try simp only [ByteArray.size_append, bstr_size, size_lit, List.size_toArray, List.length_cons, List.length_nil, List.length_take, List.length_drop, List.length_replicate, List.length_map, List.length_range]); try omega)) <| OA.ps [(6, (.string ((bstr ((List.range i).map fun j => (L key).getD j 0 ^^^ c)) ++ (bstr (([(c ^^^ (key.get! i))].drop 0).take 1)))))] rfl <| OA.nil fun _ => RA.region env_ok <| OA.ps [(17, (.int .i64 ((i : Nat) : Int)))] rfl <| oP 18 (.int .i64 (((i + 1) : Nat) : Int)) rfl (r_bin rfl rfl rfl (b_add (i64_eq (by omega)))) <| OA.ps [(7, (.int .i64 (((i + 1) : Nat) : Int)))] rfl <| OA.nil ?_
    refine ⟨(64 - (i + 1)), by omega, [], (LsO fan), (i + 1), rfl, by omega, ⟨rfl, rfl, (by show Value.string _ = Value.string _; rw [List.drop_zero, List.take_of_length_le (Nat.le_refl 1), bstr_app, List.range_succ, List.map_append]; refine string_cast (congrArg bstr (congrArg _ ?_)); rw [get_getD (by first | omega | (rw [sha_size2]; omega))]; exact congrArg (fun z => [z]) (UInt8.xor_comm _ _)), rfl, trivial⟩, rfl, (fun i hi => by cases hi), by omega⟩
   ·
    refine oP 23 yF rfl (Eq.trans (r_bin rfl rfl rfl (b_lss rfl)) (dF hc5)) <| OA.nil fun _ => RA.condF rfl <| RA.skip env_ok ?_
    intro _
    refine RA.region env_ok <| OA.ps [(29, (.string (bstr ((List.range i).map fun j => (L key).getD j 0 ^^^ c)))), (30, (.int .u8 ((c.toNat : Nat) : Int)))] rfl <| o1 (some 31) (.slice (some ⟨n3, 0, none⟩) 1 0) (n3 + 1) (n3, some ⟨(bc [c]), 1, 5, true⟩) (by kernel_rfl) <| oP 32 (.string (bstr (([c].drop 0).take 1))) rfl (r_b2s rfl rfl rfl rfl rfl rfl rfl rfl get_here (by rw [show ([c] : List UInt8).length = 1 from rfl]; omega)) <| oP 33 (.string ((bstr ((List.range i).map fun j => (L key).getD j 0 ^^^ c)) ++ (bstr (([c].drop 0).take 1)))) rfl (r_cat rfl rfl rfl (by (try simp only [ByteArray.size_append, bstr_size, size_lit, List.size_toArray, List.length_cons, List.length_nil, List.length_take, List.length_drop, List.length_replicate, List.length_map, List.length_range]); try omega)) <| OA.ps [(6, (.string ((bstr ((List.range i).map fun j => (L key).getD j 0 ^^^ c)) ++ (bstr (([c].drop 0).take 1)))))] rfl <| OA.nil fun _ => RA.region env_ok <| OA.ps [(17, (.int .i64 ((i : Nat) : Int)))] rfl <| oP 18 (.int .i64 (((i + 1) : Nat) : Int)) rfl (r_bin rfl rfl rfl (b_add (i64_eq (by omega)))) <| OA.ps [(7, (.int .i64 (((i + 1) : Nat) : Int)))] rfl ?_
    refine OA.nil ?_
    refine ⟨(64 - (i + 1)), by omega, [], (LsO fan), (i + 1), rfl, by omega, ⟨rfl, rfl, (by show Value.string _ = Value.string _; rw [List.drop_zero, List.take_of_length_le (Nat.le_refl 1), bstr_app, List.range_succ, List.map_append]; refine string_cast (congrArg bstr (congrArg _ ?_)); show [c] = [(L key).getD i 0 ^^^ c]; rw [getD_out (by rw [L_len]; first | omega | (rw [sha_size2]; omega)), UInt8.zero_xor]), rfl, trivial⟩, rfl, (fun i hi => by cases hi), by omega⟩
  ·
   refine oP 16 yF rfl (Eq.trans (r_bin rfl rfl rfl (b_lss rfl)) (dF hc4)) <| OA.nil fun _ => RA.condF rfl ?_
   refine RA.exit env_ok ?_
   intro _
   refine RA.sR hd env_ok <| OA.ps [(34, (.string (bstr ((List.range i).map fun j => (L key).getD j 0 ^^^ c)))), (4, (.string (bstr ((List.range i).map fun j => (L key).getD j 0 ^^^ c))))] rfl <| OA.nil fun _ => ?_
   refine RA.ret env_ok ?_
   exact lf (.string (bstr ((List.range i).map fun j => (L key).getD j 0 ^^^ c))) (by first | (rw [show i = 64 from (by omega), one, padF, padK_hi (by omega)]; done) | (rw [show i = 64 from (by omega), one, padF, padK_lo (by omega)]; done) | (rw [show i = 64 from (by omega), one, padF, padK_hi (by omega)]; rfl) | (rw [show i = 64 from (by omega), one, padF, padK_lo (by omega)]; rfl))
theorem s18 {σ : Store} (key s : ByteArray) (hk : key.size < 4294967296) (hs : s.size < 2147483648)   : PS Try.prog noDen 18 [(.string key), (.string s)] σ (.string (macF key s)) := by
 refine PS.body (E := env) env_ok rfl rfl (by show _ ≤ _; exact of_decide_eq_true (by kernel_rfl)) (fun n hd => ?_)
 refine RA.sR hd env_ok <| OA.ps [(4, (.string (ByteArray.mk #[])))] rfl <| OA.nil fun _ => RA.sR hd env_ok <| OA.ps [(5, (.string key))] rfl <| oC 6 (hd.up (by omega)) rfl rfl (s43 key 92 hk) fun n1 hn1 => OA.ps [(7, (.string key))] rfl <| oC 8 (hd.up (by omega)) rfl rfl (s43 key 54 hk) fun n2 hn2 => OA.ps [(9, (.string s))] rfl <| oP 10 (.string ((padF key 54) ++ s)) rfl (r_cat rfl rfl rfl (by (try simp only [ByteArray.size_append, bstr_size, size_lit, List.size_toArray, List.length_cons, List.length_nil, List.length_take, List.length_drop, List.length_replicate, padF_size, sha_size2]); try omega)) <| oC 11 (hd.up (by omega)) rfl rfl (s15 ((padF key 54) ++ s) (by simp only [ByteArray.size_append, padF_size, sha_size2]; omega)) fun n3 hn3 => ?_
 refine oP 12 (.string ((padF key 92) ++ (sha ((padF key 54) ++ s)))) rfl (r_cat rfl rfl rfl (by (try simp only [ByteArray.size_append, bstr_size, size_lit, List.size_toArray, List.length_cons, List.length_nil, List.length_take, List.length_drop, List.length_replicate, padF_size, sha_size2]); try omega)) <| oC 13 (hd.up (by omega)) rfl rfl (s15 ((padF key 92) ++ (sha ((padF key 54) ++ s))) (by simp only [ByteArray.size_append, padF_size, sha_size2]; omega)) fun n4 hn4 => OA.ps [(4, (.string (sha ((padF key 92) ++ (sha ((padF key 54) ++ s))))))] rfl <| OA.nil fun _ => ?_
 refine RA.ret env_ok ?_
 exact lf (.string (sha ((padF key 92) ++ (sha ((padF key 54) ++ s))))) rfl
theorem s19 {σ : Store} (key s : ByteArray) (hk : key.size < 4294967296) (hs : s.size < 2147483648)   : PS Try.prog noDen 19 [(.string key), (.string s)] σ (.string (macF key s)) := by
 refine PS.body (E := env) env_ok rfl rfl (by show _ ≤ _; exact of_decide_eq_true (by kernel_rfl)) (fun n hd => ?_)
 refine RA.sR hd env_ok <| OA.ps [(4, (.string (ByteArray.mk #[])))] rfl <| OA.nil fun _ => RA.sR hd env_ok <| OA.ps [(5, (.string key))] rfl <| oC 6 (hd.up (by omega)) rfl rfl (s44 key 92 hk) fun n1 hn1 => OA.ps [(7, (.string key))] rfl <| oC 8 (hd.up (by omega)) rfl rfl (s44 key 54 hk) fun n2 hn2 => OA.ps [(9, (.string s))] rfl <| oP 10 (.string ((padF key 54) ++ s)) rfl (r_cat rfl rfl rfl (by (try simp only [ByteArray.size_append, bstr_size, size_lit, List.size_toArray, List.length_cons, List.length_nil, List.length_take, List.length_drop, List.length_replicate, padF_size, sha_size2]); try omega)) <| oC 11 (hd.up (by omega)) rfl rfl (s16 ((padF key 54) ++ s) (by simp only [ByteArray.size_append, padF_size, sha_size2]; omega)) fun n3 hn3 => ?_
 refine oP 12 (.string ((padF key 92) ++ (sha ((padF key 54) ++ s)))) rfl (r_cat rfl rfl rfl (by (try simp only [ByteArray.size_append, bstr_size, size_lit, List.size_toArray, List.length_cons, List.length_nil, List.length_take, List.length_drop, List.length_replicate, padF_size, sha_size2]); try omega)) <| oC 13 (hd.up (by omega)) rfl rfl (s16 ((padF key 92) ++ (sha ((padF key 54) ++ s))) (by simp only [ByteArray.size_append, padF_size, sha_size2]; omega)) fun n4 hn4 => OA.ps [(4, (.string (sha ((padF key 92) ++ (sha ((padF key 54) ++ s))))))] rfl <| OA.nil fun _ => ?_
 refine RA.ret env_ok ?_
 exact lf (.string (sha ((padF key 92) ++ (sha ((padF key 54) ++ s))))) rfl
end Go.Proofs.Ytdnkhdkflemkeaa.Vt
/- Dm2: walks through functions of the program, by the calculus; written by a program of this workplace. -/
namespace Go.Proofs.Ytdnkhdkflemkeaa.Vt
open Go Go.Proofs Go.Proofs.YtdnkhdkflemkeaaV
set_option maxRecDepth 100000
set_option linter.unusedVariables false
set_option linter.unusedSimpArgs false
set_option maxHeartbeats 8000000
theorem or_xor_zero (d a b : UInt8) : d ||| (a ^^^ b) = 0 ↔ d = 0 ∧ a = b := by
  rw [UInt8.or_eq_zero_iff, UInt8.xor_eq_zero_iff]
theorem eq_of_get {s t : ByteArray} {N : Nat} (hs : s.size = N) (ht : t.size = N) (h : ∀ j, j < N → t.get! j = s.get! j) : s = t := by
  apply L_ext
  apply List.ext_getElem?
  intro i
  rcases Nat.lt_or_ge i N with hi | hi
  · rw [L_get s i (by omega), L_get t i (by omega), h i hi]
  · rw [List.getElem?_eq_none (by rw [L_len]; omega), List.getElem?_eq_none (by rw [L_len]; omega)]
theorem is_done {sl w : ByteArray} {d : UInt8} {i : Nat} (hw : w.size = 20) (hs : sl.size = 20) (hi : i = 20) (hd : d = 0 ↔ ∀ j, j < i → w.get! j = sl.get! j) : one [Value.bool (decide (((d.toNat : Nat) : Int) = 0))] = .bool (decide (sl = w)) := by
  subst hi
  have h1 : (((d.toNat : Nat) : Int) = 0) ↔ d = 0 := by
    rw [← UInt8.toNat_inj]
    show _ ↔ d.toNat = 0
    omega
  rw [one, decide_eq_decide.2 (h1.trans (hd.trans ⟨fun h => eq_of_get hs hw h, fun h j _ => by rw [h]⟩))]
theorem is_not {sl w : ByteArray} (hw : w.size = 20) (hs : ¬ sl.size = 20) : one [Value.bool false] = .bool (decide (sl = w)) := by
  rw [one, decide_eq_false (fun h => hs (by rw [h, hw]))]
theorem s20 {σ : Store} (key s sl : ByteArray) (hk : key.size < 4294967296) (hs : s.size < 2147483648)   : PS Try.prog noDen 20 [(.string key), (.string s), (.string sl)] σ (.bool (decide (sl = macF key s))) := by
 refine PS.body (E := env) env_ok rfl rfl (by show _ ≤ _; exact of_decide_eq_true (by kernel_rfl)) (fun n hd => ?_)
 refine RA.sR hd env_ok <| OA.ps [(6, yF)] rfl <| OA.nil fun _ => RA.sR hd env_ok <| OA.ps [(10, (.string key)), (11, (.string s))] rfl <| oC 12 (hd.up (by omega)) rfl rfl (s18 key s (by first | decide | omega) (by first | decide | omega)) fun n1 hn1 => OA.ps [(7, (.string (macF key s)))] rfl <| OA.nil fun _ => RA.seq hd <| RA.sR hd env_ok <| OA.ps [(13, (.string sl)), (14, (.int .i64 ((sl.size : Nat) : Int))), (15, (.string (macF key s)))] rfl ?_
 refine oP 16 (.int .i64 20) rfl (Eq.trans (show _ = some (Value.int .i64 (((macF key s).size : Nat) : Int), _, []) from rfl) (by rw [macF_size] <;> rfl)) ?_
 by_cases hc1 : ((sl.size : Nat) : Int) ≠ 20
 ·
  refine oP 17 yT rfl (Eq.trans (r_bin rfl rfl rfl (b_neq rfl)) (dT hc1)) <| OA.nil fun _ => RA.condT rfl <| RA.sR hd env_ok <| OA.ps [(6, yF)] rfl <| OA.nil fun _ => ?_
  refine RA.ret env_ok ?_
  exact lf yF (is_not rfl (by omega))
 ·
  refine oP 17 yF rfl (Eq.trans (r_bin rfl rfl rfl (b_neq rfl)) (dF hc1)) <| OA.nil fun _ => RA.condF rfl <| RA.skip env_ok ?_
  intro _
  refine RA.sR hd env_ok <| OA.ps [(8, (.int .u8 0))] rfl <| OA.nil fun _ => RA.seq hd <| RA.sR hd env_ok <| OA.ps [(18, (.string (macF key s)))] rfl <| oP 19 (.int .i64 20) rfl (Eq.trans (show _ = some (Value.int .i64 (((macF key s).size : Nat) : Int), _, []) from rfl) (by rw [macF_size] <;> rfl)) <| OA.ps [(20, (.int .i64 0))] rfl <| OA.nil fun _ => RA.block ?_
  have hms : (macF key s).size = 20 := rfl
  have hss : sl.size = 20 := by omega
  refine RA.loop hd (fun kk_ τ n' D => ∃ i : Nat, ∃ d : UInt8,  kk_ = (20 - i) ∧ n1 ≤ n' ∧ Has τ [(2, (.string sl)), (7, (.string (macF key s))), (8, (.int .u8 ((d.toNat : Nat) : Int))), (19, (.int .i64 20)), (20, (.int .i64 ((i : Nat) : Int)))] ∧ D = [] ∧ (∀ i ∈ keys D, i < n') ∧ i ≤ 20 ∧ (d = 0 ↔ ∀ j, j < i → (macF key s).get! j = sl.get! j)) ((20 - 0)) ⟨0, (0 : UInt8), rfl, by omega, ⟨rfl, rfl, rfl, rfl, rfl, trivial⟩, rfl, (fun i hi => by cases hi), ⟨by omega, ⟨fun _ j hj => by omega, fun _ => rfl⟩⟩⟩ ?_
  rintro kn2 τ2 n2 _ ⟨i, d, rfl, hn2, hHn2, rfl, hKn2, hIn2⟩
  rw [Has.eq hHn2]
  simp only [keys, List.map, List.forall_mem_cons, List.mem_cons, List.not_mem_nil, false_imp_iff, implies_true, and_true] at hKn2
  obtain ⟨hi, hz⟩ := hIn2
  refine RA.sR hd env_ok ?_
  by_cases hc2 : ((i : Nat) : Int) < 20
  ·
   refine oP 21 yT rfl (Eq.trans (r_bin rfl rfl rfl (b_lss rfl)) (dT hc2)) <| OA.nil fun _ => RA.seq hd <| RA.condT rfl <| RA.skip env_ok ?_
   intro _
   refine RA.seq hd <| RA.block <| RA.sR hd env_ok <| OA.ps [(22, (.int .i64 ((i : Nat) : Int))), (9, (.int .i64 ((i : Nat) : Int)))] rfl <| OA.nil fun _ => RA.par (md := [some [], some [], some [], some [], some [], some [], some [], some [], some [], some []]) env_ok (hd.up (by omega)) (by kernel_rfl) <| PQ.ps [(23, (.int .u8 ((d.toNat : Nat) : Int))), (24, (.string (macF key s))), (25, (.int .i64 ((i : Nat) : Int)))] rfl <| pP 26 (.int .u8 (((macF key s).get! i).toNat : Nat)) rfl (r_idxS (l := i) rfl rfl rfl rfl rfl (by omega) (by omega)) <| PQ.ps [(27, (.string sl)), (28, (.int .i64 ((i : Nat) : Int)))] rfl <| pP 29 (.int .u8 ((sl.get! i).toNat : Nat)) rfl (r_idxS (l := i) rfl rfl rfl rfl rfl (by omega) (by omega)) <| pP 30 (.int .u8 (((((macF key s).get! i) ^^^ (sl.get! i)).toNat : Nat) : Int)) rfl (r_bin rfl rfl rfl (b_xor8 ((macF key s).get! i) (sl.get! i))) ?_
   refine pP 31 (.int .u8 (((d ||| (((macF key s).get! i) ^^^ (sl.get! i))).toNat : Nat) : Int)) rfl (r_bin rfl rfl rfl (b_or8' d (((macF key s).get! i) ^^^ (sl.get! i)))) <| PQ.ps [(8, (.int .u8 (((d ||| (((macF key s).get! i) ^^^ (sl.get! i))).toNat : Nat) : Int)))] rfl <| PQ.done (d := []) (by kernel_rfl) fun _ => RA.region env_ok <| oP 32 (.int .i64 (((i + 1) : Nat) : Int)) rfl (r_bin rfl rfl rfl (b_add (i64_eq (by omega)))) <| OA.ps [(20, (.int .i64 (((i + 1) : Nat) : Int)))] rfl <| OA.nil ?_
   refine ⟨(20 - (i + 1)), by omega, [], (Less.refl _ _ _), (i + 1), (d ||| (((macF key s).get! i) ^^^ (sl.get! i))), rfl, by omega, ⟨rfl, rfl, rfl, rfl, rfl, trivial⟩, rfl, (fun i hi => by cases hi), ⟨by omega, by rw [or_xor_zero, hz]; exact ⟨fun h j hj => (Nat.lt_or_ge j i).elim (fun h2 => h.1 j h2) (fun h2 => by rw [show j = i from by omega]; exact h.2), fun h => ⟨fun j hj => h j (by omega), h i (by omega)⟩⟩⟩⟩
  ·
   refine oP 21 yF rfl (Eq.trans (r_bin rfl rfl rfl (b_lss rfl)) (dF hc2)) <| OA.nil fun _ => RA.seq hd <| RA.condF rfl ?_
   refine RA.exit env_ok ?_
   intro _
   refine RA.sR hd env_ok <| OA.ps [(33, (.int .u8 ((d.toNat : Nat) : Int)))] rfl <| oP 34 (.bool (decide (((d.toNat : Nat) : Int) = 0))) rfl (r_bin rfl rfl rfl (b_eql rfl)) <| OA.ps [(6, (.bool (decide (((d.toNat : Nat) : Int) = 0))))] rfl <| OA.nil fun _ => ?_
   refine RA.ret env_ok ?_
   exact lf (.bool (decide (((d.toNat : Nat) : Int) = 0))) (is_done hms hss (by omega) hz)
end Go.Proofs.Ytdnkhdkflemkeaa.Vt
/- Ak1: walks through functions of the program, by the calculus; written by a program of this workplace. -/
namespace Go.Proofs.Ytdnkhdkflemkeaa.Vt
open Go Go.Proofs Go.Proofs.YtdnkhdkflemkeaaV
set_option maxRecDepth 100000
set_option linter.unusedVariables false
set_option linter.unusedSimpArgs false
set_option maxHeartbeats 8000000
def flat0 : Value → Bool
  | .int _ _ | .bool _ | .string _ => true
  | .slice none 0 0 => true
  | _ => false
def flatA : Value → Bool
  | .agg ⟨l⟩ => l.all flat0
  | v => flat0 v
theorem flat0_eq {ι : Inj} {v v' : Value} (h : VR ι v v') (hf : flat0 v = true) : v' = v := by
  cases h <;> first | rfl | (simp [flat0] at hf)
theorem flat0_VR {v : Value} (ι : Inj) (hf : flat0 v = true) : VR ι v v := by
  unfold flat0 at hf
  split at hf <;> first | (exact .int _ _) | (exact .bool _) | (exact .str _) | (exact .sliceNil) | (simp at hf)
theorem flat0s_eq {ι : Inj} : ∀ {l l' : List Value}, VRs ι l l' → l.all flat0 = true → l' = l
  | _, _, .nil, _ => rfl
  | _, _, .cons h hs, hf => by
    simp only [List.all_cons, Bool.and_eq_true] at hf
    rw [flat0_eq h hf.1, flat0s_eq hs hf.2]
theorem flat0s_VR (ι : Inj) : ∀ {l : List Value}, l.all flat0 = true → VRs ι l l
  | [], _ => .nil
  | v :: l, hf => by
    simp only [List.all_cons, Bool.and_eq_true] at hf
    exact .cons (flat0_VR ι hf.1) (flat0s_VR ι hf.2)
theorem flatA_eq {ι : Inj} {v v' : Value} (h : VR ι v v') (hf : flatA v = true) : v' = v := by
  cases h with
  | agg h => rw [flat0s_eq h hf]
  | _ => first | rfl | exact flat0_eq (by first | assumption | constructor <;> assumption) hf | (simp [flatA, flat0] at hf)
theorem flatA_VR {v : Value} (ι : Inj) (hf : flatA v = true) : VR ι v v := by
  unfold flatA at hf
  split at hf
  · exact .agg (flat0s_VR ι hf)
  · exact flat0_VR ι hf
theorem flatAs_eq {ι : Inj} : ∀ {l l' : List Value}, VRs ι l l' → l.all flatA = true → l' = l
  | _, _, .nil, _ => rfl
  | _, _, .cons h hs, hf => by
    simp only [List.all_cons, Bool.and_eq_true] at hf
    rw [flatA_eq h hf.1, flatAs_eq hs hf.2]
theorem flatAs_VR (ι : Inj) : ∀ {l : List Value}, l.all flatA = true → VRs ι l l
  | [], _ => .nil
  | v :: l, hf => by
    simp only [List.all_cons, Bool.and_eq_true] at hf
    exact .cons (flatA_VR ι hf.1) (flatAs_VR ι hf.2)
theorem SC.anywhereA {P : Program} {f : Nat} {args : List Value} {n0 n' : Nat} {v : Value} {d : Delta} (h : SC P noDen f args n0 noStore v n' d) (ha : args.all flatA = true) (hv : flatA v = true) (n : Nat) (σ : Store) : SC P noDen f args n σ v n [] := by
  refine ⟨h.1, ⟨Nat.le_refl _, fun i hi => by simp [keys] at hi⟩, fun N w0 σ2 ι w args' R hs hR hargs hf hK => ?_⟩
  have e := flatAs_eq hargs ha
  subst e
  refine h.2.2 w.heap.size w noStore noIds w args' R (Sub.refl _) (rel_none w) (flatAs_VR _ ha) (fun _ _ _ => rfl) fun κ w' v' hend hv' => ?_
  have e2 := flatA_eq hv' hv
  subst e2
  have hb := hend.2.2.below
  refine hK ι w' v' ⟨Inj.le_refl _, fun i hi => absurd rfl hi, ?_⟩ (flatA_VR _ hv)
  have hsz := hb.size
  have h1 := hR.below
  have h2 := hR.size
  refine ⟨⟨hb.os.trans h1.os, hb.tape.trans h1.tape, hb.output.trans h1.output, Nat.le_trans h1.size hsz, fun k hk => ?_⟩, Nat.le_trans h2 hsz, fun i o e => ?_, hR.sep, hR.den⟩
  · rw [hb.block k (Nat.lt_of_lt_of_le hk h2)]; exact h1.block k hk
  · obtain ⟨p, g1, g2, g3⟩ := hR.obj i o e
    exact ⟨p, g1, g2.imp (fun h => h) (fun h => Nat.lt_of_lt_of_le h hsz), g3.keep (Inj.le_refl _) (g2.imp (fun h => h) (hb.block _))⟩
theorem PS.closedA {P : Program} {E : Env} (hE : EnvOk P E) (hd : E.den = noDen) {F k f : Nat} {args : List Value} {v : Value} {σ : Store} (h : (xcall E F k f args 0 noStore).map (·.1) = some v) (ha : args.all flatA = true) (hv : flatA v = true) : PS P noDen f args σ v := by
  intro n _
  cases hx : xcall E F k f args 0 noStore with
  | none => rw [hx] at h; cases h
  | some r =>
    obtain ⟨v', n', d⟩ := r
    rw [hx] at h
    simp at h
    subst h
    have := SC.of_callK hE (xcall_sound k hx)
    rw [hd] at this
    exact ⟨n, Nat.le_refl _, SC.anywhereA this ha hv n σ⟩
theorem pBlank {σ : Store} : PS Try.prog noDen 67 [(.agg ⟨[(.int .i64 15), (.int .i64 0), (.int .u32 0), (.int .i64 0), (.int .i64 1), (.int .u32 0), (.string (ByteArray.mk #[0, 0, 0, 0, 0, 0, 0, 0, 0, 0, 0, 0, 0, 0, 0, 0, 0, 0, 0, 0])), (.int .u32 0), (.int .u32 0), (.int .i64 0), (.int .i64 0), (.slice none 0 0), (.slice none 0 0), (.slice none 0 0), (.slice none 0 0)]⟩)] σ (.string (ByteArray.mk #[15, 0, 0, 28, 0, 0, 0, 1, 0, 0, 0, 0, 0, 0, 0, 0, 0, 0, 0, 0, 0, 0, 0, 0, 0, 0, 0, 0])) := PS.closedA env_ok rfl (F := 100) (k := 60) (by kernel_rfl) rfl rfl
theorem pConf {σ : Store} : PS Try.prog noDen 67 [(.agg ⟨[(.int .i64 193), (.int .i64 0), (.int .u32 5), (.int .i64 0), (.int .i64 0), (.int .u32 0), (.string ByteArray.empty), (.int .u32 0), (.int .u32 0), (.int .i64 0), (.int .i64 0), (.slice none 0 0), (.slice none 0 0), (.slice none 0 0), (.slice none 0 0)]⟩)] σ (.string (ByteArray.mk #[193, 0, 0, 8, 0, 0, 0, 5])) := PS.closedA env_ok rfl (F := 100) (k := 60) (by kernel_rfl) rfl rfl
end Go.Proofs.Ytdnkhdkflemkeaa.Vt
/- Ak2: walks through functions of the program, by the calculus; written by a program of this workplace. -/
namespace Go.Proofs.Ytdnkhdkflemkeaa.Vt
open Go Go.Proofs Go.Proofs.YtdnkhdkflemkeaaV
set_option maxRecDepth 100000
set_option linter.unusedVariables false
set_option linter.unusedSimpArgs false
set_option maxHeartbeats 8000000
def kB : ByteArray := (ByteArray.mk #[107])
def blB : ByteArray := (ByteArray.mk #[0, 0, 0, 0, 0, 0, 0, 0, 0, 0, 0, 0, 0, 0, 0, 0, 0, 0, 0, 0])
def pbB : ByteArray := (ByteArray.mk #[15, 0, 0, 28, 0, 0, 0, 1, 0, 0, 0, 0, 0, 0, 0, 0, 0, 0, 0, 0, 0, 0, 0, 0, 0, 0, 0, 0])
def pcB : ByteArray := (ByteArray.mk #[]) ++ (ByteArray.mk #[193, 0, 0, 8, 0, 0, 0, 5])
def msgB : ByteArray := pbB ++ pcB
theorem kB_s : kB.size < 4294967296 := by decide +kernel
theorem msgB_s : msgB.size < 2147483648 := by decide +kernel
abbrev xAk21 : List Value := [(.int .i64 193), (.int .i64 0), (.int .u32 5), (.int .i64 0), (.int .i64 0), (.int .u32 0), (.string ByteArray.empty), (.int .u32 0), (.int .u32 0), (.int .i64 0), (.int .i64 0), (.slice none 0 0), (.slice none 0 0), (.slice none 0 0), (.slice none 0 0)]
abbrev xAk22 : List Value := [(.int .i64 0), (.int .i64 0), (.int .u32 0), (.int .i64 0), (.int .i64 0), (.int .u32 0), (.string ByteArray.empty), (.int .u32 0), (.int .u32 0), (.int .i64 0), (.int .i64 0), (.slice none 0 0), (.slice none 0 0), (.slice none 0 0), (.slice none 0 0)]
abbrev xAk23 : List Value := [(.int .i64 15), (.int .i64 0), (.int .u32 0), (.int .i64 0), (.int .i64 1), (.int .u32 0), (.string (macF kB msgB)), (.int .u32 0), (.int .u32 0), (.int .i64 0), (.int .i64 0), (.slice none 0 0), (.slice none 0 0), (.slice none 0 0), (.slice none 0 0)]
abbrev xAk24 : List Value := [(.int .i64 15), (.int .i64 0), (.int .u32 0), (.int .i64 0), (.int .i64 1), (.int .u32 0), (.string blB), (.int .u32 0), (.int .u32 0), (.int .i64 0), (.int .i64 0), (.slice none 0 0), (.slice none 0 0), (.slice none 0 0), (.slice none 0 0)]
theorem kNeeds {σ : Store}    : PS Try.prog noDen 54 [(.agg ⟨[(.int .i64 193), (.int .i64 0), (.int .u32 5), (.int .i64 0), (.int .i64 0), (.int .u32 0), (.string ByteArray.empty), (.int .u32 0), (.int .u32 0), (.int .i64 0), (.int .i64 0), (.slice none 0 0), (.slice none 0 0), (.slice none 0 0), (.slice none 0 0)]⟩)] σ (.bool true) := by
 refine PS.body (E := env) env_ok rfl rfl (by show _ ≤ _; exact of_decide_eq_true (by kernel_rfl)) (fun n hd => ?_)
 refine RA.sR hd env_ok <| o1 (some 1) (Pt n 0 0) (n + 1) (n, some ⟨[xAk21], 15, 54, true⟩) rfl <| OA.ps [(2, yF)] rfl <| OA.nil fun _ => RA.sR hd env_ok <| OA.ps [(3, (Pt n 0 0))] rfl <| oL 4 (.int .i64 193) get_here <| oP 5 yT rfl (r_bin rfl rfl rfl (b_eql rfl)) <| OA.ps [(6, yT)] rfl <| OA.offs 7 3 rfl <| OA.ps [(10, yT), (2, yT)] rfl ?_
 refine OA.nil fun _ => ?_
 refine RA.ret env_ok ?_
 exact lf yT rfl
theorem kBytes1 {σ : Store} (j : Nat) (hj : σ j = some ⟨[[(.int .i64 193), (.int .i64 0), (.int .u32 5), (.int .i64 0), (.int .i64 0), (.int .u32 0), (.string ByteArray.empty), (.int .u32 0), (.int .u32 0), (.int .i64 0), (.int .i64 0), (.slice none 0 0), (.slice none 0 0), (.slice none 0 0), (.slice none 0 0)]], 15, 54, true⟩)  : PS Try.prog noDen 68 [(.slice (some ⟨j, 0, none⟩) 1 0)] σ (.string pcB) := by
 refine PS.body (E := env) env_ok rfl rfl (by show _ ≤ _; exact of_decide_eq_true (by kernel_rfl)) (fun n hd => ?_)
 have lhj := hd.lt hj
 refine RA.sR hd env_ok <| OA.ps [(2, (.string (ByteArray.mk #[])))] rfl <| OA.nil fun _ => RA.sR hd env_ok <| OA.ps [(3, (.string (ByteArray.mk #[])))] rfl <| OA.nil fun _ => RA.seq hd <| RA.sR hd env_ok <| OA.ps [(6, (.slice (some ⟨j, 0, none⟩) 1 0)), (7, (.int .i64 1)), (8, (.int .i64 0))] rfl <| OA.nil fun _ => RA.block ?_
 refine RA.unroll hd ?_
 refine RA.sR hd env_ok <| oP 9 yT rfl (r_bin rfl rfl rfl (b_lss rfl)) <| OA.nil fun _ => RA.seq hd <| RA.condT rfl <| RA.skip env_ok ?_
 intro _
 refine RA.seq hd <| RA.block <| RA.sR hd env_ok <| oP 10 (Pt j 0 0) rfl (r_iaS (l := 0) rfl rfl rfl rfl rfl rfl (by omega) (by omega) hj rfl (by omega)) <| oP 11 (.agg ⟨xAk21⟩) rfl (r_loadA rfl rfl rfl rfl hj rfl rfl rfl) <| o1 (some 5) (Pt n 0 0) (n + 1) (n, some ⟨[xAk22], 15, 54, true⟩) rfl <| o1 none yU (n + 1) (n, some ⟨[xAk21], 15, 54, true⟩) (rS get_here) <| OA.nil fun _ => RA.region env_ok <| OA.ps [(12, (.string (ByteArray.mk #[])))] rfl <| oP 13 (.agg ⟨xAk21⟩) rfl (r_loadA rfl rfl rfl rfl get_here rfl rfl rfl) ?_
 refine oC 14 (hd.of (by omega) (kb2 (by omega))) rfl rfl pConf fun n1 hn1 => oP 15 (.string pcB) rfl (show _ = some (Value.string pcB, _, []) from r_cat rfl rfl rfl (by decide +kernel)) <| OA.ps [(3, (.string pcB))] rfl <| OA.nil fun _ => RA.region env_ok <| oP 16 (.int .i64 1) rfl (r_bin rfl rfl rfl (b_add (i64_eq (by omega)))) <| OA.ps [(8, (.int .i64 1))] rfl <| OA.nil fun _ => ?_
 refine RA.unroll hd ?_
 refine RA.sR hd env_ok <| oP 9 yF rfl (r_bin rfl rfl rfl (b_lss rfl)) <| OA.nil fun _ => RA.seq hd <| RA.condF rfl ?_
 refine RA.exit env_ok ?_
 intro _
 refine RA.sR hd env_ok <| OA.ps [(17, (.string pcB)), (2, (.string pcB))] rfl <| OA.nil fun _ => ?_
 refine RA.ret env_ok ?_
 exact lf (.string pcB) rfl
theorem kBytes2 {σ : Store} (j : Nat) (hj : σ j = some ⟨[[(.int .i64 15), (.int .i64 0), (.int .u32 0), (.int .i64 0), (.int .i64 1), (.int .u32 0), (.string (macF kB msgB)), (.int .u32 0), (.int .u32 0), (.int .i64 0), (.int .i64 0), (.slice none 0 0), (.slice none 0 0), (.slice none 0 0), (.slice none 0 0)], [(.int .i64 193), (.int .i64 0), (.int .u32 5), (.int .i64 0), (.int .i64 0), (.int .u32 0), (.string ByteArray.empty), (.int .u32 0), (.int .u32 0), (.int .i64 0), (.int .i64 0), (.slice none 0 0), (.slice none 0 0), (.slice none 0 0), (.slice none 0 0)]], 15, 54, true⟩)  : PS Try.prog noDen 68 [(.slice (some ⟨j, 1, none⟩) 1 0)] σ (.string pcB) := by
 refine PS.body (E := env) env_ok rfl rfl (by show _ ≤ _; exact of_decide_eq_true (by kernel_rfl)) (fun n hd => ?_)
 have lhj := hd.lt hj
 refine RA.sR hd env_ok <| OA.ps [(2, (.string (ByteArray.mk #[])))] rfl <| OA.nil fun _ => RA.sR hd env_ok <| OA.ps [(3, (.string (ByteArray.mk #[])))] rfl <| OA.nil fun _ => RA.seq hd <| RA.sR hd env_ok <| OA.ps [(6, (.slice (some ⟨j, 1, none⟩) 1 0)), (7, (.int .i64 1)), (8, (.int .i64 0))] rfl <| OA.nil fun _ => RA.block ?_
 refine RA.unroll hd ?_
 refine RA.sR hd env_ok <| oP 9 yT rfl (r_bin rfl rfl rfl (b_lss rfl)) <| OA.nil fun _ => RA.seq hd <| RA.condT rfl <| RA.skip env_ok ?_
 intro _
 refine RA.seq hd <| RA.block <| RA.sR hd env_ok <| oP 10 (Pt j 1 0) rfl (r_iaS (l := 0) rfl rfl rfl rfl rfl rfl (by omega) (by omega) hj rfl (by omega)) <| oP 11 (.agg ⟨xAk21⟩) rfl (r_loadA rfl rfl rfl rfl hj rfl rfl rfl) <| o1 (some 5) (Pt n 0 0) (n + 1) (n, some ⟨[xAk22], 15, 54, true⟩) rfl <| o1 none yU (n + 1) (n, some ⟨[xAk21], 15, 54, true⟩) (rS get_here) <| OA.nil fun _ => RA.region env_ok <| OA.ps [(12, (.string (ByteArray.mk #[])))] rfl <| oP 13 (.agg ⟨xAk21⟩) rfl (r_loadA rfl rfl rfl rfl get_here rfl rfl rfl) ?_
 refine oC 14 (hd.of (by omega) (kb2 (by omega))) rfl rfl pConf fun n1 hn1 => oP 15 (.string pcB) rfl (show _ = some (Value.string pcB, _, []) from r_cat rfl rfl rfl (by decide +kernel)) <| OA.ps [(3, (.string pcB))] rfl <| OA.nil fun _ => RA.region env_ok <| oP 16 (.int .i64 1) rfl (r_bin rfl rfl rfl (b_add (i64_eq (by omega)))) <| OA.ps [(8, (.int .i64 1))] rfl <| OA.nil fun _ => ?_
 refine RA.unroll hd ?_
 refine RA.sR hd env_ok <| oP 9 yF rfl (r_bin rfl rfl rfl (b_lss rfl)) <| OA.nil fun _ => RA.seq hd <| RA.condF rfl ?_
 refine RA.exit env_ok ?_
 intro _
 refine RA.sR hd env_ok <| OA.ps [(17, (.string pcB)), (2, (.string pcB))] rfl <| OA.nil fun _ => ?_
 refine RA.ret env_ok ?_
 exact lf (.string pcB) rfl
theorem kSeal {σ : Store} (j : Nat) (hj : σ j = some ⟨[[(.int .i64 193), (.int .i64 0), (.int .u32 5), (.int .i64 0), (.int .i64 0), (.int .u32 0), (.string ByteArray.empty), (.int .u32 0), (.int .u32 0), (.int .i64 0), (.int .i64 0), (.slice none 0 0), (.slice none 0 0), (.slice none 0 0), (.slice none 0 0)]], 15, 54, true⟩)  : PS Try.prog noDen 50 [(.string kB), (.slice (some ⟨j, 0, none⟩) 1 0)] σ (.string (macF kB msgB)) := by
 refine PS.body (E := env) env_ok rfl rfl (by show _ ≤ _; exact of_decide_eq_true (by kernel_rfl)) (fun n hd => ?_)
 have lhj := hd.lt hj
 refine RA.sR hd env_ok <| OA.ps [(4, (.string (ByteArray.mk #[])))] rfl <| OA.nil fun _ => RA.sR hd env_ok <| o1 (some 6) (.slice (some ⟨n, 0, none⟩) 20 0) (n + 1) (n, some ⟨(bc (List.replicate 20 0)), 1, 5, true⟩) (r_makeBytes (K := 20) rfl rfl rfl rfl rfl rfl rfl rfl rfl (by omega)) <| oP 7 (.string blB) rfl (Eq.trans (r_b2s rfl rfl rfl rfl rfl rfl rfl rfl get_here (by rw [List.length_replicate]; omega)) (by kernel_rfl)) <| oP 8 (.agg ⟨xAk24⟩) rfl (by kernel_rfl) <| o1 (some 5) (.pointer (some ⟨(n + 1), 0, some 0⟩)) (n + 2) ((n + 1), some ⟨[xAk22], 15, 54, true⟩) rfl <| o1 none yU (n + 2) ((n + 1), some ⟨[xAk24], 15, 54, true⟩) (rS get_here) <| OA.nil fun _ => RA.weaken hd (LsO (fA get_here get_here (fA (get_there (by omega) get_here) (gt2 (by omega) get_here) fan))) ?_
 refine RA.sR hd env_ok <| OA.ps [(9, (.string kB))] rfl <| oP 10 (.agg ⟨xAk24⟩) rfl (r_loadA rfl rfl rfl rfl get_here rfl rfl rfl) <| oC 11 (hd.of (by omega) (kb2 (by omega))) rfl rfl pBlank fun n1 hn1 => OA.ps [(12, (.slice (some ⟨j, 0, none⟩) 1 0))] rfl <| oC 13 (hd.of (by omega) (kb2 (by omega))) rfl rfl (kBytes1 j (gt2 (by omega) hj)) fun n2 hn2 => oP 14 (.string msgB) rfl (show _ = some (Value.string msgB, _, []) from r_cat rfl rfl rfl (by decide +kernel)) <| oC 15 (hd.of (by omega) (kb2 (by omega))) rfl rfl (s18 kB msgB kB_s msgB_s) fun n3 hn3 => OA.ps [(4, (.string (macF kB msgB)))] rfl <| OA.nil fun _ => ?_
 refine RA.ret env_ok ?_
 exact lf (.string (macF kB msgB)) rfl
theorem kSign {n : Nat} {σ : Store} (hd : Dom n σ) (j : Nat) (hj : σ j = some ⟨[[(.int .i64 193), (.int .i64 0), (.int .u32 5), (.int .i64 0), (.int .i64 0), (.int .u32 0), (.string ByteArray.empty), (.int .u32 0), (.int .u32 0), (.int .i64 0), (.int .i64 0), (.slice none 0 0), (.slice none 0 0), (.slice none 0 0), (.slice none 0 0)]], 15, 54, true⟩)  : CQ Try.prog noDen 31 [(.string kB), (.slice (some ⟨j, 0, none⟩) 1 0)] n σ (fun v n' d => ∃ i, n ≤ i ∧ i < n' ∧ v = .slice (some ⟨i, 0, none⟩) 2 0 ∧ d = [(i, some ⟨[[(.int .i64 15), (.int .i64 0), (.int .u32 0), (.int .i64 0), (.int .i64 1), (.int .u32 0), (.string (macF kB msgB)), (.int .u32 0), (.int .u32 0), (.int .i64 0), (.int .i64 0), (.slice none 0 0), (.slice none 0 0), (.slice none 0 0), (.slice none 0 0)], [(.int .i64 193), (.int .i64 0), (.int .u32 5), (.int .i64 0), (.int .i64 0), (.int .u32 0), (.string ByteArray.empty), (.int .u32 0), (.int .u32 0), (.int .i64 0), (.int .i64 0), (.slice none 0 0), (.slice none 0 0), (.slice none 0 0), (.slice none 0 0)]], 15, 54, true⟩)]) := by
 have lhj := hd.lt hj
 refine CQ.body (E := env) env_ok hd rfl rfl (by show _ ≤ _; exact of_decide_eq_true (by kernel_rfl)) ?_
 refine RA.sR hd env_ok <| OA.ps [(4, (.slice none 0 0))] rfl <| OA.nil fun _ => RA.sR hd env_ok <| OA.ps [(6, (.string kB)), (7, (.slice (some ⟨j, 0, none⟩) 1 0))] rfl <| oC 8 (hd.up (by omega)) rfl rfl (kSeal j hj) fun n1 hn1 => oP 9 (.agg ⟨xAk23⟩) rfl (by kernel_rfl) <| o1 (some 5) (Pt n1 0 0) (n1 + 1) (n1, some ⟨[xAk22], 15, 54, true⟩) rfl <| o1 none yU (n1 + 1) (n1, some ⟨[xAk23], 15, 54, true⟩) (rS get_here) <| OA.nil fun _ => RA.sR hd env_ok ?_
 refine oP 10 (.agg ⟨xAk23⟩) rfl (r_loadA rfl rfl rfl rfl get_here rfl rfl rfl) <| o1 (some 11) (.slice (some ⟨(n1 + 1), 0, none⟩) 1 0) (n1 + 2) ((n1 + 1), some ⟨[xAk23], 15, 54, true⟩) (by kernel_rfl) <| OA.ps [(12, (.slice (some ⟨j, 0, none⟩) 1 0))] rfl <| OA.op (dst := (some 13)) (v := (.slice (some ⟨(n1 + 2), 0, none⟩) 2 0)) (n1 := (n1 + 3)) (d1 := [((n1 + 2), some ⟨[xAk23, xAk21], 15, 54, true⟩), ((n1 + 1), none)]) (D' := [((n1 + 2), some ⟨[xAk23, xAk21], 15, 54, true⟩), ((n1 + 1), none), ((n1 + 1), some ⟨[xAk23], 15, 54, true⟩), (n1, some ⟨[xAk23], 15, 54, true⟩), (n1, some ⟨[xAk22], 15, 54, true⟩)]) rfl rfl rfl (r_append (l := [xAk23]) (cs := xAk21) rfl rfl rfl rfl rfl rfl rfl rfl rfl rfl (by decide) get_here (gt3 (by omega) hj) rfl (by decide) (of_decide_eq_true (by kernel_rfl)) rfl) (by omega) rfl <| OA.ps [(4, (.slice (some ⟨(n1 + 2), 0, none⟩) 2 0))] rfl <| OA.nil fun _ => RA.weaken hd (LsO (fA get_here get_here (fA (get_there (by omega) get_here) (get_there (by omega) get_here) (fA (gt2 (by omega) get_here) (gt3 (by omega) get_here) fan)))) ?_
 refine RA.ret env_ok ?_
 refine ⟨.inr rfl, [(.slice (some ⟨(n1 + 2), 0, none⟩) 2 0)], (resL_cons rfl resL_nil), [((n1 + 2), some ⟨[xAk23, xAk21], 15, 54, true⟩)], (LsO (fA get_here get_here fan)), ⟨(n1 + 2), by omega, by omega, rfl, rfl⟩⟩
theorem kRight {σ : Store} (j : Nat) (hj : σ j = some ⟨[[(.int .i64 15), (.int .i64 0), (.int .u32 0), (.int .i64 0), (.int .i64 1), (.int .u32 0), (.string (macF kB msgB)), (.int .u32 0), (.int .u32 0), (.int .i64 0), (.int .i64 0), (.slice none 0 0), (.slice none 0 0), (.slice none 0 0), (.slice none 0 0)], [(.int .i64 193), (.int .i64 0), (.int .u32 5), (.int .i64 0), (.int .i64 0), (.int .u32 0), (.string ByteArray.empty), (.int .u32 0), (.int .u32 0), (.int .i64 0), (.int .i64 0), (.slice none 0 0), (.slice none 0 0), (.slice none 0 0), (.slice none 0 0)]], 15, 54, true⟩)  : PS Try.prog noDen 53 [(.string kB), (.agg ⟨[(.int .i64 15), (.int .i64 0), (.int .u32 0), (.int .i64 0), (.int .i64 1), (.int .u32 0), (.string (macF kB msgB)), (.int .u32 0), (.int .u32 0), (.int .i64 0), (.int .i64 0), (.slice none 0 0), (.slice none 0 0), (.slice none 0 0), (.slice none 0 0)]⟩), (.slice (some ⟨j, 1, none⟩) 1 0)] σ (.bool true) := by
 refine PS.body (E := env) env_ok rfl rfl (by show _ ≤ _; exact of_decide_eq_true (by kernel_rfl)) (fun n hd => ?_)
 have lhj := hd.lt hj
 refine RA.sR hd env_ok <| o1 (some 4) (Pt n 0 0) (n + 1) (n, some ⟨[xAk23], 15, 54, true⟩) rfl <| OA.ps [(6, yF)] rfl <| OA.nil fun _ => RA.sR hd env_ok <| o1 (some 8) (.slice (some ⟨(n + 1), 0, none⟩) 20 0) (n + 2) ((n + 1), some ⟨(bc (List.replicate 20 0)), 1, 5, true⟩) (r_makeBytes (K := 20) rfl rfl rfl rfl rfl rfl rfl rfl rfl (by omega)) <| oP 9 (.string blB) rfl (Eq.trans (r_b2s rfl rfl rfl rfl rfl rfl rfl rfl get_here (by rw [List.length_replicate]; omega)) (by kernel_rfl)) <| oP 10 (.agg ⟨xAk24⟩) rfl (by kernel_rfl) <| o1 (some 7) (.pointer (some ⟨(n + 2), 0, some 0⟩)) (n + 3) ((n + 2), some ⟨[xAk22], 15, 54, true⟩) rfl <| o1 none yU (n + 3) ((n + 2), some ⟨[xAk24], 15, 54, true⟩) (rS get_here) <| OA.nil fun _ => ?_
 refine RA.weaken hd (LsO (fA get_here get_here (fA (get_there (by omega) get_here) (gt2 (by omega) get_here) (fA (gt2 (by omega) get_here) (gt3 (by omega) get_here) fan)))) <| RA.seq hd <| RA.par (md := [some [], some [n], some [], some [], some [], some [n], some [], some [], some [], some [], some [(n + 2)], some [], some [], none, some [], some [], some [n], some [], some [], some []]) env_ok (hd.of (by omega) (kb3 (by omega))) (by kernel_rfl) <| PQ.ps [(11, (Pt n 0 3))] rfl <| pQl 12 (.int .i64 0) (gt2 (by omega) get_here) <| pP 13 yT rfl (r_bin rfl rfl rfl (b_eql rfl)) <| PQ.ps [(14, yT), (15, (Pt n 0 4))] rfl <| pQl 16 (.int .i64 1) (gt2 (by omega) get_here) <| pP 17 yT rfl (r_bin rfl rfl rfl (b_eql rfl)) <| PQ.ps [(18, yT), (19, yT), (20, (.string kB))] rfl <| pQL 21 (.agg ⟨xAk24⟩) (V := []) rfl (by kernel_rfl) (by kernel_rfl) get_here (r_loadA rfl rfl rfl rfl get_here rfl rfl rfl) ?_
 refine pC 22 rfl rfl pBlank fun n1 hn1 => PQ.ps [(23, (.slice (some ⟨j, 1, none⟩) 1 0))] rfl <| pA 24 (V := []) (hd.of (by omega) (kb3 (by omega))) rfl rfl (by kernel_rfl) (by kernel_rfl) (kBytes2 j (gt3 (by omega) hj)) fun n2 hn2 => pP 25 (.string msgB) rfl (show _ = some (Value.string msgB, _, []) from r_cat rfl rfl rfl (by decide +kernel)) <| PQ.ps [(26, (Pt n 0 6))] rfl <| pQl 27 (.string (macF kB msgB)) (gt2 (by omega) get_here) <| pC 28 (v := yT) rfl rfl (PS.to (s20 kB msgB (macF kB msgB) kB_s msgB_s) (congrArg Value.bool (decide_eq_true rfl))) fun n3 hn3 => PQ.ps [(29, yT), (6, yT)] rfl <| PQ.done (d := []) (by kernel_rfl) fun _ => RA.rb [(0, (.string kB)), (1, (.agg ⟨xAk23⟩)), (2, (.slice (some ⟨j, 1, none⟩) 1 0)), (4, (Pt n 0 0)), (6, yT), (7, (.pointer (some ⟨(n + 2), 0, some 0⟩)))] rfl (fun τr4 => ?_)
 refine RA.ret env_ok ?_
 exact lf yT rfl
theorem kPass2 {n : Nat} {σ : Store} (hd : Dom n σ) (j : Nat) (hj : σ j = some ⟨[[(.int .i64 15), (.int .i64 0), (.int .u32 0), (.int .i64 0), (.int .i64 1), (.int .u32 0), (.string (macF kB msgB)), (.int .u32 0), (.int .u32 0), (.int .i64 0), (.int .i64 0), (.slice none 0 0), (.slice none 0 0), (.slice none 0 0), (.slice none 0 0)], [(.int .i64 193), (.int .i64 0), (.int .u32 5), (.int .i64 0), (.int .i64 0), (.int .u32 0), (.string ByteArray.empty), (.int .u32 0), (.int .u32 0), (.int .i64 0), (.int .i64 0), (.slice none 0 0), (.slice none 0 0), (.slice none 0 0), (.slice none 0 0)]], 15, 54, true⟩)  : CQ Try.prog noDen 35 [(.string kB), (.slice (some ⟨j, 0, none⟩) 2 0)] n σ (fun v n' d => ∃ i, n ≤ i ∧ i < n' ∧ v = .slice (some ⟨i, 0, none⟩) 1 0 ∧ d = [(i, some ⟨[[(.int .i64 193), (.int .i64 0), (.int .u32 5), (.int .i64 0), (.int .i64 0), (.int .u32 0), (.string ByteArray.empty), (.int .u32 0), (.int .u32 0), (.int .i64 0), (.int .i64 0), (.slice none 0 0), (.slice none 0 0), (.slice none 0 0), (.slice none 0 0)]], 15, 54, true⟩)]) := by
 have lhj := hd.lt hj
 refine CQ.body (E := env) env_ok hd rfl rfl (by show _ ≤ _; exact of_decide_eq_true (by kernel_rfl)) ?_
 refine RA.sR hd env_ok <| OA.ps [(4, (.slice none 0 0))] rfl <| OA.nil fun _ => RA.sR hd env_ok <| OA.ps [(5, (.slice none 0 0))] rfl <| OA.nil fun _ => RA.sR hd env_ok <| OA.ps [(6, yF)] rfl <| OA.nil fun _ => RA.seq hd <| RA.sR hd env_ok ?_
 refine OA.ps [(9, (.slice (some ⟨j, 0, none⟩) 2 0)), (10, (.int .i64 2)), (11, (.int .i64 0))] rfl <| OA.nil fun _ => RA.block ?_
 refine RA.unroll hd ?_
 refine RA.sR hd env_ok <| oP 12 yT rfl (r_bin rfl rfl rfl (b_lss rfl)) <| OA.nil fun _ => RA.seq hd <| RA.condT rfl <| RA.skip env_ok ?_
 intro _
 refine RA.seq hd <| RA.block <| RA.sR hd env_ok <| OA.ps [(13, (.int .i64 0))] rfl <| oP 14 (Pt j 0 0) rfl (r_iaS (l := 0) rfl rfl rfl rfl rfl rfl (by omega) (by omega) hj rfl (by omega)) <| oP 15 (.agg ⟨xAk23⟩) rfl (r_loadA rfl rfl rfl rfl hj rfl rfl rfl) <| o1 (some 8) (Pt n 0 0) (n + 1) (n, some ⟨[xAk22], 15, 54, true⟩) rfl <| OA.ps [(7, (.int .i64 0))] rfl <| o1 none yU (n + 1) (n, some ⟨[xAk23], 15, 54, true⟩) (rS get_here) <| OA.nil fun _ => RA.block ?_
 refine RA.sR hd env_ok <| OA.ps [(17, (Pt n 0 0))] rfl <| oL 18 (.int .i64 15) get_here <| oP 19 yT rfl (r_bin rfl rfl rfl (b_eql rfl)) <| OA.ps [(16, yT)] rfl <| OA.nil fun _ => RA.condT rfl <| RA.par (md := [some [], some [n], some [], some [], some [], some [j], none, some []]) env_ok (hd.of (by omega) (kb2 (by omega))) (by kernel_rfl) <| PQ.ps [(20, (.string kB))] rfl <| pQL 21 (.agg ⟨xAk23⟩) (V := []) rfl (by kernel_rfl) (by kernel_rfl) get_here (r_loadA rfl rfl rfl rfl get_here rfl rfl rfl) <| PQ.ps [(22, (.slice (some ⟨j, 0, none⟩) 2 0)), (23, (.int .i64 0))] rfl ?_
 refine pP 24 (.int .i64 1) rfl (r_bin rfl rfl rfl (b_add (i64_eq (by omega)))) <| pQL 25 (.slice (some ⟨j, 1, none⟩) 1 0) (V := []) rfl (by kernel_rfl) (by kernel_rfl) (gt2 (by omega) hj) (r_cutG (a := 1) (b := 2) rfl rfl (fun _ => rfl) (fun _ => rfl) rfl rfl rfl rfl rfl get_here rfl (by decide) ⟨.inl (Nat.le_refl _), Nat.le_of_ble_eq_true rfl⟩ (by decide) (by decide)) <| pA 26 (V := []) (hd.of (by omega) (kb2 (by omega))) rfl rfl (by kernel_rfl) (by kernel_rfl) (kRight j (gt2 (by omega) hj)) fun n1 hn1 => PQ.ps [(6, yT)] rfl <| PQ.done (d := []) (by kernel_rfl) fun _ => RA.rb [(0, (.string kB)), (1, (.slice (some ⟨j, 0, none⟩) 2 0)), (4, (.slice none 0 0)), (5, (.slice none 0 0)), (6, yT), (7, (.int .i64 0)), (8, (Pt n 0 0)), (9, (.slice (some ⟨j, 0, none⟩) 2 0)), (10, (.int .i64 2)), (11, (.int .i64 0)), (12, yT), (16, yT)] rfl (fun τr2 => ?_)
 refine RA.region env_ok <| oP 38 (.int .i64 1) rfl (r_bin rfl rfl rfl (b_add (i64_eq (by omega)))) <| OA.ps [(11, (.int .i64 1))] rfl <| OA.nil fun _ => ?_
 refine RA.unroll hd ?_
 refine RA.sR hd env_ok <| oP 12 yT rfl (r_bin rfl rfl rfl (b_lss rfl)) <| OA.nil fun _ => RA.seq hd <| RA.condT rfl <| RA.skip env_ok ?_
 intro _
 refine RA.seq hd <| RA.block <| RA.sR hd env_ok <| OA.ps [(13, (.int .i64 1))] rfl <| oP 14 (Pt j 1 0) rfl (r_iaS (l := 1) rfl rfl rfl rfl rfl rfl (by omega) (by omega) (gt2 (by omega) hj) rfl (by omega)) <| oP 15 (.agg ⟨xAk21⟩) rfl (r_loadA rfl rfl rfl rfl (gt2 (by omega) hj) rfl rfl rfl) <| o1 (some 8) (Pt n1 0 0) (n1 + 1) (n1, some ⟨[xAk22], 15, 54, true⟩) rfl <| OA.ps [(7, (.int .i64 1))] rfl <| o1 none yU (n1 + 1) (n1, some ⟨[xAk21], 15, 54, true⟩) (rS get_here) <| OA.nil fun _ => RA.weaken hd (LsO (fA get_here get_here (fA (get_there (by omega) get_here) (gt2 (by omega) get_here) fan))) ?_
 refine RA.block <| RA.sR hd env_ok <| OA.ps [(17, (Pt n1 0 0))] rfl <| oL 18 (.int .i64 193) get_here <| oP 19 yF rfl (r_bin rfl rfl rfl (b_eql rfl)) <| OA.ps [(16, yF)] rfl <| OA.nil fun _ => RA.condF rfl <| RA.sR hd env_ok <| oP 28 (.agg ⟨xAk21⟩) rfl (r_loadA rfl rfl rfl rfl get_here rfl rfl rfl) <| oC 29 (hd.of (by omega) (kb2 (by omega))) rfl rfl kNeeds fun n3 hn3 => ?_
 refine OA.ps [(30, yF), (31, yF), (32, yT), (33, yT), (27, yT)] rfl <| OA.nil fun _ => RA.condT rfl <| RA.region env_ok <| OA.ps [(34, (.slice none 0 0))] rfl <| oP 35 (.agg ⟨xAk21⟩) rfl (r_loadA rfl rfl rfl rfl get_here rfl rfl rfl) <| o1 (some 36) (.slice (some ⟨n3, 0, none⟩) 1 0) (n3 + 1) (n3, some ⟨[xAk21], 15, 54, true⟩) (by kernel_rfl) <| o1 (some 37) (.slice (some ⟨(n3 + 1), 0, none⟩) 1 0) (n3 + 2) ((n3 + 1), some ⟨[xAk21], 15, 54, true⟩) (r_append0 rfl rfl rfl rfl rfl rfl rfl rfl rfl rfl (by decide) get_here (of_decide_eq_true (by kernel_rfl))) <| OA.ps [(5, (.slice (some ⟨(n3 + 1), 0, none⟩) 1 0))] rfl <| OA.nil fun _ => RA.rb [(0, (.string kB)), (1, (.slice (some ⟨j, 0, none⟩) 2 0)), (4, (.slice none 0 0)), (5, (.slice (some ⟨(n3 + 1), 0, none⟩) 1 0)), (6, yT), (7, (.int .i64 1)), (8, (Pt n1 0 0)), (9, (.slice (some ⟨j, 0, none⟩) 2 0)), (10, (.int .i64 2)), (11, (.int .i64 1)), (12, yT), (16, yF), (27, yT)] rfl (fun τr4 => ?_)
 refine RA.region env_ok <| oP 38 (.int .i64 2) rfl (r_bin rfl rfl rfl (b_add (i64_eq (by omega)))) <| OA.ps [(11, (.int .i64 2))] rfl <| OA.nil fun _ => ?_
 refine RA.unroll hd ?_
 refine RA.sR hd env_ok <| oP 12 yF rfl (r_bin rfl rfl rfl (b_lss rfl)) <| OA.nil fun _ => RA.seq hd <| RA.condF rfl ?_
 refine RA.exit env_ok ?_
 intro _
 refine RA.sR hd env_ok <| OA.ps [(39, (.slice (some ⟨(n3 + 1), 0, none⟩) 1 0)), (4, (.slice (some ⟨(n3 + 1), 0, none⟩) 1 0))] rfl <| OA.nil fun _ => ?_
 refine RA.ret env_ok ?_
 refine ⟨.inr rfl, [(.slice (some ⟨(n3 + 1), 0, none⟩) 1 0)], (resL_cons rfl resL_nil), [((n3 + 1), some ⟨[xAk21], 15, 54, true⟩)], (LsO (fA get_here get_here fan)), ⟨(n3 + 1), by omega, by omega, rfl, rfl⟩⟩
theorem kPass1 {σ : Store} (j : Nat) (hj : σ j = some ⟨[[(.int .i64 15), (.int .i64 0), (.int .u32 0), (.int .i64 0), (.int .i64 1), (.int .u32 0), (.string (macF kB msgB)), (.int .u32 0), (.int .u32 0), (.int .i64 0), (.int .i64 0), (.slice none 0 0), (.slice none 0 0), (.slice none 0 0), (.slice none 0 0)], [(.int .i64 193), (.int .i64 0), (.int .u32 5), (.int .i64 0), (.int .i64 0), (.int .u32 0), (.string ByteArray.empty), (.int .u32 0), (.int .u32 0), (.int .i64 0), (.int .i64 0), (.slice none 0 0), (.slice none 0 0), (.slice none 0 0), (.slice none 0 0)]], 15, 54, true⟩)  : PS Try.prog noDen 35 [(.string kB), (.slice (some ⟨j, 1, none⟩) 1 0)] σ (.slice none 0 0) := by
 refine PS.body (E := env) env_ok rfl rfl (by show _ ≤ _; exact of_decide_eq_true (by kernel_rfl)) (fun n hd => ?_)
 have lhj := hd.lt hj
 refine RA.sR hd env_ok <| OA.ps [(4, (.slice none 0 0))] rfl <| OA.nil fun _ => RA.sR hd env_ok <| OA.ps [(5, (.slice none 0 0))] rfl <| OA.nil fun _ => RA.sR hd env_ok <| OA.ps [(6, yF)] rfl <| OA.nil fun _ => RA.seq hd <| RA.sR hd env_ok ?_
 refine OA.ps [(9, (.slice (some ⟨j, 1, none⟩) 1 0)), (10, (.int .i64 1)), (11, (.int .i64 0))] rfl <| OA.nil fun _ => RA.block ?_
 refine RA.unroll hd ?_
 refine RA.sR hd env_ok <| oP 12 yT rfl (r_bin rfl rfl rfl (b_lss rfl)) <| OA.nil fun _ => RA.seq hd <| RA.condT rfl <| RA.skip env_ok ?_
 intro _
 refine RA.seq hd <| RA.block <| RA.sR hd env_ok <| OA.ps [(13, (.int .i64 0))] rfl <| oP 14 (Pt j 1 0) rfl (r_iaS (l := 0) rfl rfl rfl rfl rfl rfl (by omega) (by omega) hj rfl (by omega)) <| oP 15 (.agg ⟨xAk21⟩) rfl (r_loadA rfl rfl rfl rfl hj rfl rfl rfl) <| o1 (some 8) (Pt n 0 0) (n + 1) (n, some ⟨[xAk22], 15, 54, true⟩) rfl <| OA.ps [(7, (.int .i64 0))] rfl <| o1 none yU (n + 1) (n, some ⟨[xAk21], 15, 54, true⟩) (rS get_here) <| OA.nil fun _ => RA.block ?_
 refine RA.sR hd env_ok <| OA.ps [(17, (Pt n 0 0))] rfl <| oL 18 (.int .i64 193) get_here <| oP 19 yF rfl (r_bin rfl rfl rfl (b_eql rfl)) <| OA.ps [(16, yF)] rfl <| OA.nil fun _ => RA.condF rfl <| RA.sR hd env_ok <| oP 28 (.agg ⟨xAk21⟩) rfl (r_loadA rfl rfl rfl rfl get_here rfl rfl rfl) <| oC 29 (hd.of (by omega) (kb2 (by omega))) rfl rfl kNeeds fun n1 hn1 => OA.ps [(30, yF), (31, yF), (32, yF), (33, yF), (27, yF)] rfl ?_
 refine OA.nil fun _ => RA.condF rfl <| RA.skip env_ok ?_
 intro _
 refine RA.region env_ok <| oP 38 (.int .i64 1) rfl (r_bin rfl rfl rfl (b_add (i64_eq (by omega)))) <| OA.ps [(11, (.int .i64 1))] rfl <| OA.nil fun _ => ?_
 refine RA.unroll hd ?_
 refine RA.sR hd env_ok <| oP 12 yF rfl (r_bin rfl rfl rfl (b_lss rfl)) <| OA.nil fun _ => RA.rb [(0, (.string kB)), (1, (.slice (some ⟨j, 1, none⟩) 1 0)), (4, (.slice none 0 0)), (5, (.slice none 0 0)), (6, yF), (7, (.int .i64 0)), (8, (Pt n 0 0)), (9, (.slice (some ⟨j, 1, none⟩) 1 0)), (10, (.int .i64 1)), (11, (.int .i64 1)), (12, yF), (16, yF), (27, yF)] rfl (fun τr2 => ?_)
 refine RA.seq hd <| RA.condF rfl ?_
 refine RA.exit env_ok ?_
 intro _
 refine RA.sR hd env_ok <| OA.ps [(39, (.slice none 0 0)), (4, (.slice none 0 0))] rfl <| OA.nil fun _ => ?_
 refine RA.ret env_ok ?_
 exact lf (.slice none 0 0) rfl
theorem kAwake {σ : Store}    : PS Try.prog noDen 32 [] σ (.bool true) := by
 refine PS.body (E := env) env_ok rfl rfl (by show _ ≤ _; exact of_decide_eq_true (by kernel_rfl)) (fun n hd => ?_)
 refine RA.sR hd env_ok <| OA.ps [(0, yF)] rfl <| OA.nil fun _ => RA.sR hd env_ok <| oP 2 (.agg ⟨xAk21⟩) rfl (by kernel_rfl) <| o1 (some 3) (.slice (some ⟨n, 0, none⟩) 1 0) (n + 1) (n, some ⟨[xAk21], 15, 54, true⟩) (by kernel_rfl) ?_
 refine OA.call (dst := (some 4)) (all := [(.string kB), (.slice (some ⟨n, 0, none⟩) 1 0)]) rfl rfl rfl rfl rfl rfl rfl rfl (CQ.imp (kSign (hd.of (by omega) (kb1 (by omega))) n get_here) ?_)
 rintro _ n1 _ ⟨in1, hin1a, hin1b, rfl, rfl⟩ hn1
 refine OA.app1 ?_
 refine OA.ps [(1, (.slice (some ⟨in1, 0, none⟩) 2 0))] rfl <| OA.nil fun _ => RA.sR hd env_ok <| OA.ps [(5, (.slice (some ⟨in1, 0, none⟩) 2 0)), (6, (.int .i64 2))] rfl <| oP 7 yT rfl (r_bin rfl rfl rfl (b_eql rfl)) <| OA.ps [(8, yT), (9, (.slice (some ⟨in1, 0, none⟩) 2 0))] rfl ?_
 refine OA.call (dst := (some 10)) (all := [(.string kB), (.slice (some ⟨in1, 0, none⟩) 2 0)]) rfl rfl rfl rfl rfl rfl rfl rfl (CQ.imp (kPass2 (hd.of (by omega) (kb2 (by omega))) in1 get_here) ?_)
 rintro _ n2 _ ⟨in2, hin2a, hin2b, rfl, rfl⟩ hn2
 refine OA.app1 ?_
 refine OA.ps [(11, (.int .i64 1))] rfl <| oP 12 yT rfl (r_bin rfl rfl rfl (b_eql rfl)) <| OA.ps [(13, yT), (14, yT), (15, (.slice (some ⟨in1, 0, none⟩) 2 0))] rfl <| oP 16 (.slice (some ⟨in1, 1, none⟩) 1 0) rfl (r_cutG (a := 1) (b := 2) rfl rfl (fun _ => rfl) (fun _ => rfl) rfl rfl rfl rfl rfl (get_there (by omega) get_here) rfl (by decide) ⟨.inl (Nat.le_refl _), Nat.le_of_ble_eq_true rfl⟩ (by decide) (by decide)) <| oC 17 (hd.of (by omega) (kb3 (by omega))) rfl rfl (kPass1 in1 (get_there (by omega) get_here)) fun n3 hn3 => OA.ps [(18, (.int .i64 0))] rfl <| oP 19 yT rfl (r_bin rfl rfl rfl (b_eql rfl)) <| OA.ps [(20, yT), (0, yT)] rfl <| OA.nil fun _ => ?_
 refine RA.ret env_ok ?_
 exact lf yT rfl
end Go.Proofs.Ytdnkhdkflemkeaa.Vt
/- Ap1: walks through functions of the program, by the calculus; written by a program of this workplace. -/
namespace Go.Proofs.Ytdnkhdkflemkeaa.Vt.Cp
open Go Go.Proofs Go.Proofs.YtdnkhdkflemkeaaV
set_option maxRecDepth 100000
set_option linter.unusedVariables false
set_option linter.unusedSimpArgs false
set_option maxHeartbeats 8000000
def Keep (T : Nat) (σ σ' : Store) : Prop := ∀ i o, σ i = some o → o.t ≠ T → σ' i = some o
theorem Keep.sub {T : Nat} {σ σ' : Store} (h : Sub σ σ') : Keep T σ σ' := fun i o hi _ => h i o hi
theorem Keep.refl {T : Nat} {σ : Store} : Keep T σ σ := fun i o hi _ => hi
theorem Keep.trans {T : Nat} {σ σ' σ'' : Store} (h : Keep T σ σ') (h' : Keep T σ' σ'') : Keep T σ σ'' := fun i o hi ho => h' i o (h i o hi ho) ho
theorem rowq_keep {T : Nat} {σ σ' : Store} (hk : Keep T σ σ') {e sz : Nat} (he : e ≠ T) {v : Value} {es : List (List Value)} : RowQ σ e sz v es → RowQ σ' e sz v es
  | .nil => .nil
  | .zero => .zero
  | .obj h => .obj (hk _ _ h he)
theorem gd.keep {σ σ' : Store} {d : Chk} (h : gd σ d) (hk : Keep 54 σ σ') : gd σ' d := ⟨rowq_keep hk (by decide) h.hp, rowq_keep hk (by decide) h.hc, rowq_keep hk (by decide) h.hg, rowq_keep hk (by decide) h.hu, h.p18, h.c18, h.g18, h.u18, h.fl, h.gr⟩
theorem keep_app {T n : Nat} {σ : Store} {D : Delta} (hd : Dom n σ) (hk : ∀ k ∈ keys D, n ≤ k ∨ ∃ o, σ k = some o ∧ o.t = T) : Keep T σ (app D σ) := by
  intro i o hi ho
  rw [app_off]
  · exact hi
  · intro hm
    rcases hk i hm with h | ⟨q, h1, h2⟩
    · have := hd.lt hi; omega
    · rw [hi] at h1; cases h1; exact ho h2
noncomputable def chB (d : Chk) : List UInt8 := @ite _ (mayP d) (Classical.propDecidable _) (chL d) []
theorem chB_t {d : Chk} (h : mayP d) : chB d = chL d := if_pos h
theorem chB_f {d : Chk} (h : ¬ mayP d) : chB d = [] := if_neg h
theorem chB_len (d : Chk) : (chB d).length ≤ 17100 := by
  by_cases h : mayP d
  · rw [chB_t h]
    have h1 := bodyL_len h.2.1
    have h2 := pad_len (be1 d.typ.toNat ++ be1 d.flags.toNat ++ be2 ((bodyL d).length + 4) ++ bodyL d)
    simp only [List.length_append, be1_len, be2_len] at h2
    unfold chL; omega
  · rw [chB_f h]; simp
noncomputable def chsL (l : List Chk) : List UInt8 := l.flatMap chB
theorem chsL_len (l : List Chk) : (chsL l).length ≤ l.length * 17100 := fm_len l (fun x _ => chB_len x)
theorem drop_snoc {α : Type} {l : List α} {d0 : α} {off i : Nat} (h : off + i < l.length) : (l.drop off).take i ++ [l.getD (off + i) d0] = (l.drop off).take (i + 1) := by
  rw [← take_snoc (l := l.drop off) (d0 := d0) (by rw [List.length_drop]; omega)]
  rw [List.getD_eq_getElem?_getD, List.getD_eq_getElem?_getD, List.getElem?_drop]
theorem chsL_snoc {A : List UInt8} {l : List Chk} {off i : Nat} (h : off + i < l.length) : (A ++ chsL ((l.drop off).take i)) ++ chB (l.getD (off + i) dChk) = A ++ chsL ((l.drop off).take (i + 1)) := by
  rw [← drop_snoc (d0 := dChk) h]
  unfold chsL
  rw [List.flatMap_append]
  simp [List.append_assoc]
def PBL : List UInt8 := [15, 0, 0, 28, 0, 0, 0, 1, 0, 0, 0, 0, 0, 0, 0, 0, 0, 0, 0, 0, 0, 0, 0, 0, 0, 0, 0, 0]
noncomputable def sealF (k : ByteArray) (l : List Chk) : ByteArray := macF k (bstr (PBL ++ chsL l))
abbrev fstC (m : ByteArray) : Chk := Chk.mk 15 0 0#32 0 1 0#32 m 0#32 0#32 0 0 (.slice none 0 0) (.slice none 0 0) (.slice none 0 0) (.slice none 0 0) [] [] [] []
theorem gd_keepL {σ σ' : Store} {l : List Chk} (h : ∀ c ∈ l, gd σ c) (hk : Keep 54 σ σ') : ∀ c ∈ l, gd σ' c := fun c hc => (h c hc).keep hk
abbrev xAp11 : List Value := [(.int .i64 0), (.int .i64 0), (.int .u32 0), (.int .i64 0), (.int .i64 0), (.int .u32 0), (.string ByteArray.empty), (.int .u32 0), (.int .u32 0), (.int .i64 0), (.int .i64 0), (.slice none 0 0), (.slice none 0 0), (.slice none 0 0), (.slice none 0 0)]
noncomputable abbrev xAp12 (k : ByteArray) (xs : List Chk) : List Value := [(.int .i64 15), (.int .i64 0), (.int .u32 0), (.int .i64 0), (.int .i64 1), (.int .u32 0), (.string (sealF k xs)), (.int .u32 0), (.int .u32 0), (.int .i64 0), (.int .i64 0), (.slice none 0 0), (.slice none 0 0), (.slice none 0 0), (.slice none 0 0)]
abbrev xAp13 : List Value := [(.int .i64 15), (.int .i64 0), (.int .u32 0), (.int .i64 0), (.int .i64 1), (.int .u32 0), (.string blB), (.int .u32 0), (.int .u32 0), (.int .i64 0), (.int .i64 0), (.slice none 0 0), (.slice none 0 0), (.slice none 0 0), (.slice none 0 0)]
theorem sChP {σ : Store} (d : Chk) (h : gd σ d) : PS Try.prog noDen 67 [.agg ⟨cChk d⟩] σ (.string (bstr (chB d))) := by
  by_cases hm : mayP d
  · rw [chB_t hm]; exact sChPutT d hm h
  · rw [chB_f hm]; exact sChPutF d hm h
theorem rChP {σ : Store} (d : Chk) (h : gd σ d) : PS Try.prog noDen 52 [.agg ⟨cChk d⟩] σ (.string (bstr (chB d))) := by
  by_cases hm : mayP d
  · rw [chB_t hm]; exact rChPutT d hm h
  · rw [chB_f hm]; exact rChPutF d hm h
theorem pBlank2 {σ : Store} : PS Try.prog noDen 67 [(.agg ⟨xAp13⟩)] σ (.string (bstr PBL)) := PS.to pBlank (by kernel_rfl)
theorem sBytes {σ : Store} (j off M N : Nat) (xs : List Chk) (hl : xs.length = N) (hN : N ≤ 7) (hx : ∀ c ∈ xs, gd σ c) (hM : off + M = N) (hj : σ j = some (oChk xs))  : PS Try.prog noDen 68 [(.slice (some ⟨j, off, none⟩) M 0)] σ (.string (bstr (chsL (xs.drop off)))) := by
 refine PS.body (E := env) env_ok rfl rfl (by show _ ≤ _; exact of_decide_eq_true (by kernel_rfl)) (fun n hd => ?_)
 have lhj := hd.lt hj
 refine RA.sR hd env_ok <| OA.ps [(2, (.string (ByteArray.mk #[])))] rfl <| OA.nil fun _ => RA.sR hd env_ok <| OA.ps [(3, (.string (ByteArray.mk #[])))] rfl <| OA.nil fun _ => RA.seq hd <| RA.sR hd env_ok <| OA.ps [(6, (.slice (some ⟨j, off, none⟩) M 0)), (7, (.int .i64 ((M : Nat) : Int))), (8, (.int .i64 0))] rfl <| OA.nil fun _ => RA.block ?_
 refine RA.loop hd (fun kk_ τ n' D => (∃ i : Nat, kk_ = (M - i) ∧ n ≤ n' ∧ Has τ [(3, (.string (bstr (chsL ((xs.drop off).take i))))), (6, (.slice (some ⟨j, off, none⟩) M 0)), (7, (.int .i64 ((M : Nat) : Int))), (8, (.int .i64 ((i : Nat) : Int)))] ∧ D = [] ∧ (∀ i ∈ keys D, i < n') ∧ i ≤ M)) ((M - 0)) (⟨0, rfl, by omega, ⟨rfl, rfl, rfl, rfl, trivial⟩, rfl, (fun i hi => by cases hi), by omega⟩) ?_
 rintro kn1 τ1 n1 _ ⟨i, rfl, hn1, hHn1, rfl, hKn1, hIn1⟩
 rw [Has.eq hHn1]
 have hil := hIn1
 have hcl := chsL_len ((xs.drop off).take i)
 have htl : ((xs.drop off).take i).length ≤ 7 := by rw [List.length_take, List.length_drop]; omega
 refine RA.sR hd env_ok ?_
 by_cases hc1 : ((i : Nat) : Int) < ((M : Nat) : Int)
 ·
  have hgc := hx _ (getD_mem (d := dChk) (show off + i < xs.length by omega))
  have hcb := chB_len (xs.getD (off + i) dChk)
  refine oP 9 yT rfl (Eq.trans (r_bin rfl rfl rfl (b_lss rfl)) (Go.Proofs.YtdnkhdkflemkeaaV.dT hc1)) <| OA.nil fun _ => RA.seq hd <| RA.condT rfl <| RA.skip env_ok ?_
  intro _
  refine RA.seq hd <| RA.block <| RA.sR hd env_ok <| oP 10 (.pointer (some ⟨j, (off + i), some 0⟩)) rfl (r_iaS (l := i) rfl rfl rfl rfl rfl rfl (by omega) (by omega) hj rfl (by omega)) <| oP 11 (.agg ⟨(cChk (xs.getD (off + i) dChk))⟩) rfl (r_loadR (c := cChk) dChk rfl rfl rfl rfl hj (by rw [hl]; omega) rfl) <| o1 (some 5) (Pt n1 0 0) (n1 + 1) (n1, some ⟨[xAp11], 15, 54, true⟩) rfl <| o1 none yU (n1 + 1) (n1, some ⟨[(cChk (xs.getD (off + i) dChk))], 15, 54, true⟩) (r_store (cs := (cChk (xs.getD (off + i) dChk))) rfl rfl rfl rfl rfl rfl (by simp only [List.all_cons, List.all_nil, Bool.and_true, Bool.and_eq_true, cChk]; exact ⟨rfl, rfl, rfl, rfl, rfl, rfl, rfl, rfl, rfl, rfl, rfl, (hgc.hp).one, (hgc.hc).one, (hgc.hg).one, (hgc.hu).one⟩) get_here rfl rfl (Nat.le_of_ble_eq_true rfl) rfl) <| OA.nil fun _ => RA.region env_ok <| OA.ps [(12, (.string (bstr (chsL ((xs.drop off).take i)))))] rfl <| oP 13 (.agg ⟨[(.int .i64 (xs.getD (off + i) dChk).typ), (.int .i64 (xs.getD (off + i) dChk).flags), (W (xs.getD (off + i) dChk).tsn), (.int .i64 (xs.getD (off + i) dChk).stream), (.int .i64 (xs.getD (off + i) dChk).ssn), (W (xs.getD (off + i) dChk).proto), (.string (xs.getD (off + i) dChk).data), (W (xs.getD (off + i) dChk).tag), (W (xs.getD (off + i) dChk).rwnd), (.int .i64 (xs.getD (off + i) dChk).outs), (.int .i64 (xs.getD (off + i) dChk).ins), (xs.getD (off + i) dChk).pv, (xs.getD (off + i) dChk).cv, (xs.getD (off + i) dChk).gv, (xs.getD (off + i) dChk).dv]⟩) rfl (r_loadA rfl rfl rfl rfl get_here rfl rfl rfl) ?_
  refine oC 14 (hd.of (by omega) (kb2 (by omega))) rfl rfl (sChP (xs.getD (off + i) dChk) (hgc.keep (keep_app hd (by intro k_ hk_; simp only [keys, List.cons_append, List.nil_append, List.map_cons, List.map_nil, List.mem_cons, List.not_mem_nil, or_false, false_or] at hk_; exact .inl (by omega))))) fun n2 hn2 => oP 15 (.string (bstr ((chsL ((xs.drop off).take i)) ++ (chB (xs.getD (off + i) dChk))))) rfl (Eq.trans (r_cat rfl rfl rfl (by simp only [bstr_size, size_lit, List.length_append, be2_len, be4_len, be1_len, List.length_replicate, List.length_cons, List.length_nil, List.size_toArray]; omega)) (by rw [bstr_app] <;> rfl)) <| OA.ps [(3, (.string (bstr ((chsL ((xs.drop off).take i)) ++ (chB (xs.getD (off + i) dChk))))))] rfl <| OA.nil fun _ => RA.region env_ok <| oP 16 (.int .i64 (((i + 1) : Nat) : Int)) rfl (r_bin rfl rfl rfl (b_add (i64_eq (by omega)))) <| OA.ps [(8, (.int .i64 (((i + 1) : Nat) : Int)))] rfl <| OA.nil ?_
  refine ⟨(M - (i + 1)), by omega, [], (LsO fan), ⟨(i + 1), rfl, by omega, ⟨(by rw [show chsL ((xs.drop off).take i) ++ chB (xs.getD (off + i) dChk) = chsL ((xs.drop off).take (i + 1)) from chsL_snoc (A := []) (by omega)] <;> rfl), rfl, rfl, rfl, trivial⟩, rfl, (fun i hi => by cases hi), by omega⟩⟩
 ·
  refine oP 9 yF rfl (Eq.trans (r_bin rfl rfl rfl (b_lss rfl)) (Go.Proofs.YtdnkhdkflemkeaaV.dF hc1)) <| OA.nil fun _ => RA.seq hd <| RA.condF rfl ?_
  refine RA.exit env_ok ?_
  intro _
  refine RA.sR hd env_ok <| OA.ps [(17, (.string (bstr (chsL ((xs.drop off).take i))))), (2, (.string (bstr (chsL ((xs.drop off).take i)))))] rfl <| OA.nil fun _ => ?_
  refine RA.ret env_ok ?_
  exact lf (.string (bstr (chsL ((xs.drop off).take i)))) (by rw [take_full (by rw [List.length_drop]; omega)] <;> rfl)
theorem lSeal {σ : Store} (k : ByteArray) (hk : k.size ≤ 40) (j off M N : Nat) (xs : List Chk) (hl : xs.length = N) (hN : N ≤ 7) (hx : ∀ c ∈ xs, gd σ c) (hM : off + M = N) (hj : σ j = some (oChk xs))  : PS Try.prog noDen 34 [(.string k), (.slice (some ⟨j, off, none⟩) M 0)] σ (.string (sealF k (xs.drop off))) := by
 refine PS.body (E := env) env_ok rfl rfl (by show _ ≤ _; exact of_decide_eq_true (by kernel_rfl)) (fun n hd => ?_)
 have lhj := hd.lt hj
 refine RA.sR hd env_ok <| OA.ps [(4, (.string (ByteArray.mk #[])))] rfl <| OA.nil fun _ => RA.sR hd env_ok <| o1 (some 7) (.slice (some ⟨n, 0, none⟩) 20 0) (n + 1) (n, some ⟨(bc (List.replicate 20 0)), 1, 5, true⟩) (r_makeBytes (K := 20) rfl rfl rfl rfl rfl rfl rfl rfl rfl (by omega)) <| oP 8 (.string blB) rfl (Eq.trans (r_b2s rfl rfl rfl rfl rfl rfl rfl rfl get_here (by rw [List.length_replicate]; omega)) (by kernel_rfl)) <| oP 9 (.string (bstr (PBL ++ chsL ([] : List Chk)))) rfl (Eq.trans (r_cat rfl rfl rfl (by decide +kernel)) (by kernel_rfl)) <| OA.ps [(5, (.string (bstr (PBL ++ chsL ([] : List Chk)))))] rfl <| OA.nil fun _ => RA.seq hd <| RA.sR hd env_ok ?_
 refine OA.ps [(6, (.int .i64 0))] rfl <| OA.nil fun _ => RA.block <| RA.weaken hd (LsO fan) ?_
 refine RA.loop hd (fun kk_ τ n' D => (∃ i : Nat, kk_ = (M - i) ∧ (n + 1) ≤ n' ∧ Has τ [(0, (.string k)), (1, (.slice (some ⟨j, off, none⟩) M 0)), (5, (.string (bstr (PBL ++ chsL ((xs.drop off).take i))))), (6, (.int .i64 ((i : Nat) : Int)))] ∧ D = [] ∧ (∀ i ∈ keys D, i < n') ∧ i ≤ M)) ((M - 0)) (⟨0, rfl, by omega, ⟨rfl, rfl, rfl, rfl, trivial⟩, rfl, (fun i hi => by cases hi), by omega⟩) ?_
 rintro kn1 τ1 n1 _ ⟨i, rfl, hn1, hHn1, rfl, hKn1, hIn1⟩
 rw [Has.eq hHn1]
 have hil := hIn1
 have hcl := chsL_len ((xs.drop off).take i)
 have htl : ((xs.drop off).take i).length ≤ 7 := by rw [List.length_take, List.length_drop]; omega
 have hpl : PBL.length = 28 := rfl
 refine RA.seq hd <| RA.sR hd env_ok <| OA.ps [(10, (.int .i64 ((i : Nat) : Int))), (11, (.slice (some ⟨j, off, none⟩) M 0)), (12, (.int .i64 ((M : Nat) : Int)))] rfl ?_
 by_cases hc1 : ((i : Nat) : Int) < ((M : Nat) : Int)
 ·
  have hgc := hx _ (getD_mem (d := dChk) (show off + i < xs.length by omega))
  have hcb := chB_len (xs.getD (off + i) dChk)
  refine oP 13 yT rfl (Eq.trans (r_bin rfl rfl rfl (b_lss rfl)) (Go.Proofs.YtdnkhdkflemkeaaV.dT hc1)) <| OA.nil fun _ => RA.condT rfl <| RA.skip env_ok ?_
  intro _
  refine RA.seq hd <| RA.block <| RA.region env_ok <| OA.ps [(16, (.string (bstr (PBL ++ chsL ((xs.drop off).take i))))), (17, (.slice (some ⟨j, off, none⟩) M 0)), (18, (.int .i64 ((i : Nat) : Int)))] rfl <| oP 19 (.pointer (some ⟨j, (off + i), some 0⟩)) rfl (r_iaS (l := i) rfl rfl rfl rfl rfl rfl (by omega) (by omega) hj rfl (by omega)) <| oP 20 (.agg ⟨(cChk (xs.getD (off + i) dChk))⟩) rfl (r_loadR (c := cChk) dChk rfl rfl rfl rfl hj (by rw [hl]; omega) rfl) <| oC 21 (hd.up (by omega)) rfl rfl (rChP (xs.getD (off + i) dChk) (hgc.keep Keep.refl)) fun n2 hn2 => oP 22 (.string (bstr ((PBL ++ chsL ((xs.drop off).take i)) ++ (chB (xs.getD (off + i) dChk))))) rfl (Eq.trans (r_cat rfl rfl rfl (by simp only [bstr_size, size_lit, List.length_append, be2_len, be4_len, be1_len, List.length_replicate, List.length_cons, List.length_nil, List.size_toArray]; omega)) (by rw [bstr_app] <;> rfl)) <| OA.ps [(5, (.string (bstr ((PBL ++ chsL ((xs.drop off).take i)) ++ (chB (xs.getD (off + i) dChk))))))] rfl <| OA.nil fun _ => RA.region env_ok ?_
  refine OA.ps [(14, (.int .i64 ((i : Nat) : Int)))] rfl <| oP 15 (.int .i64 (((i + 1) : Nat) : Int)) rfl (r_bin rfl rfl rfl (b_add (i64_eq (by omega)))) <| OA.ps [(6, (.int .i64 (((i + 1) : Nat) : Int)))] rfl <| OA.nil ?_
  refine ⟨(M - (i + 1)), by omega, [], (Less.refl _ _ _), ⟨(i + 1), rfl, by omega, ⟨rfl, rfl, (by rw [chsL_snoc (A := PBL) (by omega)] <;> rfl), rfl, trivial⟩, rfl, (fun i hi => by cases hi), by omega⟩⟩
 ·
  refine oP 13 yF rfl (Eq.trans (r_bin rfl rfl rfl (b_lss rfl)) (Go.Proofs.YtdnkhdkflemkeaaV.dF hc1)) <| OA.nil fun _ => RA.condF rfl ?_
  refine RA.exit env_ok ?_
  intro _
  refine RA.sR hd env_ok <| OA.ps [(23, (.string k)), (24, (.string (bstr (PBL ++ chsL ((xs.drop off).take i)))))] rfl <| oC 25 (hd.up (by omega)) rfl rfl (s19 k (bstr (PBL ++ chsL ((xs.drop off).take i))) (by omega) (by rw [bstr_size, List.length_append, show PBL.length = 28 from rfl]; omega)) fun n3 hn3 => OA.ps [(4, (.string (macF k (bstr (PBL ++ chsL ((xs.drop off).take i))))))] rfl <| OA.nil fun _ => ?_
  refine RA.ret env_ok ?_
  exact lf (.string (macF k (bstr (PBL ++ chsL ((xs.drop off).take i))))) (by unfold sealF; rw [take_full (by rw [List.length_drop]; omega)] <;> rfl)
theorem sSeal {σ : Store} (k : ByteArray) (hk : k.size ≤ 40) (j off M N : Nat) (xs : List Chk) (hl : xs.length = N) (hN : N ≤ 7) (hx : ∀ c ∈ xs, gd σ c) (hM : off + M = N) (hj : σ j = some (oChk xs))  : PS Try.prog noDen 50 [(.string k), (.slice (some ⟨j, off, none⟩) M 0)] σ (.string (sealF k (xs.drop off))) := by
 have hcl := chsL_len (xs.drop off)
 have htl : (xs.drop off).length ≤ 7 := by rw [List.length_drop]; omega
 have hpl : PBL.length = 28 := rfl
 refine PS.body (E := env) env_ok rfl rfl (by show _ ≤ _; exact of_decide_eq_true (by kernel_rfl)) (fun n hd => ?_)
 have lhj := hd.lt hj
 refine RA.sR hd env_ok <| OA.ps [(4, (.string (ByteArray.mk #[])))] rfl <| OA.nil fun _ => RA.sR hd env_ok <| o1 (some 6) (.slice (some ⟨n, 0, none⟩) 20 0) (n + 1) (n, some ⟨(bc (List.replicate 20 0)), 1, 5, true⟩) (r_makeBytes (K := 20) rfl rfl rfl rfl rfl rfl rfl rfl rfl (by omega)) <| oP 7 (.string blB) rfl (Eq.trans (r_b2s rfl rfl rfl rfl rfl rfl rfl rfl get_here (by rw [List.length_replicate]; omega)) (by kernel_rfl)) <| oP 8 (.agg ⟨xAp13⟩) rfl (by kernel_rfl) <| o1 (some 5) (.pointer (some ⟨(n + 1), 0, some 0⟩)) (n + 2) ((n + 1), some ⟨[xAp11], 15, 54, true⟩) rfl <| o1 none yU (n + 2) ((n + 1), some ⟨[xAp13], 15, 54, true⟩) (rS get_here) <| OA.nil fun _ => RA.weaken hd (LsO (fA get_here get_here (fA (get_there (by omega) get_here) (gt2 (by omega) get_here) fan))) ?_
 refine RA.sR hd env_ok <| OA.ps [(9, (.string k))] rfl <| oP 10 (.agg ⟨xAp13⟩) rfl (r_loadA rfl rfl rfl rfl get_here rfl rfl rfl) <| oC 11 (hd.of (by omega) (kb2 (by omega))) rfl rfl pBlank2 fun n1 hn1 => OA.ps [(12, (.slice (some ⟨j, off, none⟩) M 0))] rfl <| oC 13 (hd.of (by omega) (kb2 (by omega))) rfl rfl (sBytes j off M N xs (by rw [hl]) (by omega) (gd_keepL hx (keep_app hd (by intro k_ hk_; simp only [keys, List.cons_append, List.nil_append, List.map_cons, List.map_nil, List.mem_cons, List.not_mem_nil, or_false, false_or] at hk_; exact .inl (by omega)))) (by omega) (gt2 (by omega) hj)) fun n2 hn2 => oP 14 (.string (bstr (PBL ++ (chsL (xs.drop off))))) rfl (Eq.trans (r_cat rfl rfl rfl (by simp only [bstr_size, size_lit, List.length_append, be2_len, be4_len, be1_len, List.length_replicate, List.length_cons, List.length_nil, List.size_toArray]; omega)) (by rw [bstr_app] <;> rfl)) <| oC 15 (hd.of (by omega) (kb2 (by omega))) rfl rfl (s18 k (bstr (PBL ++ (chsL (xs.drop off)))) (by omega) (by rw [bstr_size, List.length_append, show PBL.length = 28 from rfl]; omega)) fun n3 hn3 => OA.ps [(4, (.string (macF k (bstr (PBL ++ (chsL (xs.drop off)))))))] rfl <| OA.nil fun _ => ?_
 refine RA.ret env_ok ?_
 exact lf (.string (macF k (bstr (PBL ++ (chsL (xs.drop off)))))) rfl
theorem sSign {n : Nat} {σ : Store} (hd : Dom n σ) (k : ByteArray) (hk : k.size ≤ 40) (j N : Nat) (xs : List Chk) (hl : xs.length = N) (hN : N ≤ 6) (hx : ∀ c ∈ xs, gd σ c) (hj : σ j = some (oChk xs))  : CQ Try.prog noDen 31 [(.string k), (.slice (some ⟨j, 0, none⟩) N 0)] n σ (fun v n' d => ∃ i, n ≤ i ∧ i < n' ∧ v = .slice (some ⟨i, 0, none⟩) (N + 1) 0 ∧ d = [(i, some (oChk (fstC (sealF k xs) :: xs)))]) := by
 have lhj := hd.lt hj
 refine CQ.body (E := env) env_ok hd rfl rfl (by show _ ≤ _; exact of_decide_eq_true (by kernel_rfl)) ?_
 refine RA.sR hd env_ok <| OA.ps [(4, (.slice none 0 0))] rfl <| OA.nil fun _ => RA.sR hd env_ok <| OA.ps [(6, (.string k)), (7, (.slice (some ⟨j, 0, none⟩) N 0))] rfl <| oC 8 (v := (.string (sealF k xs))) (hd.up (by omega)) rfl rfl (sSeal k hk j 0 N N xs hl (by omega) (gd_keepL hx Keep.refl) (by omega) hj) fun n1 hn1 => oP 9 (.agg ⟨(xAp12 k xs)⟩) rfl (by kernel_rfl) <| o1 (some 5) (Pt n1 0 0) (n1 + 1) (n1, some ⟨[xAp11], 15, 54, true⟩) rfl <| o1 none yU (n1 + 1) (n1, some ⟨[(xAp12 k xs)], 15, 54, true⟩) (rS get_here) <| OA.nil fun _ => RA.sR hd env_ok ?_
 refine oP 10 (.agg ⟨(xAp12 k xs)⟩) rfl (r_loadA rfl rfl rfl rfl get_here rfl rfl rfl) <| o1 (some 11) (.slice (some ⟨(n1 + 1), 0, none⟩) 1 0) (n1 + 2) ((n1 + 1), some (oChk [fstC (sealF k xs)])) (by kernel_rfl) <| OA.ps [(12, (.slice (some ⟨j, 0, none⟩) N 0))] rfl ?_
 by_cases hc1 : N = 0
 ·
  refine oP 13 (.slice (some ⟨(n1 + 1), 0, none⟩) 1 0) rfl (r_appendZ rfl rfl rfl rfl (.inl ⟨_, _, _, rfl, by decide⟩) rfl rfl rfl rfl rfl (by decide) (by omega)) <| OA.ps [(4, (.slice (some ⟨(n1 + 1), 0, none⟩) 1 0))] rfl <| OA.nil fun _ => RA.weaken hd (LsO (fA get_here get_here (fA (get_there (by omega) get_here) (get_there (by omega) get_here) fan))) ?_
  refine RA.ret env_ok ?_
  refine ⟨.inr rfl, [(.slice (some ⟨(n1 + 1), 0, none⟩) 1 0)], (resL_cons rfl resL_nil), [((n1 + 1), some (oChk [fstC (sealF k xs)]))], (LsO (fA get_here get_here fan)), ⟨(n1 + 1), by omega, by omega, by rw [show N + 1 = 1 from by omega] <;> rfl, by rw [List.length_eq_zero_iff.1 (show xs.length = 0 from by omega)] <;> rfl⟩⟩
 ·
  refine OA.op (dst := (some 13)) (v := (.slice (some ⟨(n1 + 2), 0, none⟩) (1 + N) 0)) (n1 := (n1 + 3)) (d1 := [((n1 + 2), some (oChk (fstC (sealF k xs) :: xs))), ((n1 + 1), none)]) (D' := [((n1 + 2), some (oChk (fstC (sealF k xs) :: xs))), ((n1 + 1), none), ((n1 + 1), some (oChk [fstC (sealF k xs)])), (n1, some ⟨[(xAp12 k xs)], 15, 54, true⟩), (n1, some ⟨[xAp11], 15, 54, true⟩)]) rfl rfl rfl (r_appendL (c := cChk) (l' := (fstC (sealF k xs) :: xs)) rfl rfl rfl rfl rfl rfl rfl rfl rfl rfl (by decide) get_here (gt3 (by omega) hj) (by rw [show [fstC (sealF k xs)].length = 1 from rfl]) (by omega) (by rw [hl]; omega) (by rw [List.drop_zero, List.take_of_length_le (by omega)] <;> rfl) (by omega) (of_decide_eq_true (by kernel_rfl)) (by omega)) (by omega) rfl <| OA.ps [(4, (.slice (some ⟨(n1 + 2), 0, none⟩) (1 + N) 0))] rfl <| OA.nil fun _ => RA.weaken hd (LsO (fA get_here get_here (fA (get_there (by omega) get_here) (get_there (by omega) get_here) (fA (gt2 (by omega) get_here) (gt3 (by omega) get_here) fan)))) ?_
  refine RA.ret env_ok ?_
  refine ⟨.inr rfl, [(.slice (some ⟨(n1 + 2), 0, none⟩) (1 + N) 0)], (resL_cons rfl resL_nil), [((n1 + 2), some (oChk (fstC (sealF k xs) :: xs)))], (LsO (fA get_here get_here fan)), ⟨(n1 + 2), by omega, by omega, by rw [show N + 1 = 1 + N from by omega] <;> rfl, rfl⟩⟩
end Go.Proofs.Ytdnkhdkflemkeaa.Vt.Cp
/- Ap2: walks through functions of the program, by the calculus; written by a program of this workplace. -/
namespace Go.Proofs.Ytdnkhdkflemkeaa.Vt.Cp
open Go Go.Proofs Go.Proofs.YtdnkhdkflemkeaaV
set_option maxRecDepth 100000
set_option linter.unusedVariables false
set_option linter.unusedSimpArgs false
set_option maxHeartbeats 8000000
theorem rSame {σ : Store} (d : Chk) (h : gd σ d)   : PS Try.prog noDen 51 [(.agg ⟨(cChk d)⟩), (.agg ⟨(cChk d)⟩)] σ (.bool true) := by
 have h1 := h.p18
 have h2 := h.c18
 have h3 := h.g18
 have h4 := h.u18
 refine PS.body (E := env) env_ok rfl rfl (by show _ ≤ _; exact of_decide_eq_true (by kernel_rfl)) (fun n hd => ?_)
 refine RA.sR hd env_ok <| o1 (some 2) (Pt n 0 0) (n + 1) (n, some ⟨[(cChk d)], 15, 54, true⟩) (r_box (cs := (cChk d)) rfl rfl rfl (Nat.le_of_ble_eq_true rfl) (by simp only [List.all_cons, List.all_nil, Bool.and_true, Bool.and_eq_true, cChk]; exact ⟨rfl, rfl, rfl, rfl, rfl, rfl, rfl, rfl, rfl, rfl, rfl, (h.hp).one, (h.hc).one, (h.hg).one, (h.hu).one⟩)) <| o1 (some 3) (.pointer (some ⟨(n + 1), 0, some 0⟩)) (n + 2) ((n + 1), some ⟨[(cChk d)], 15, 54, true⟩) (r_box (cs := (cChk d)) rfl rfl rfl (Nat.le_of_ble_eq_true rfl) (by simp only [List.all_cons, List.all_nil, Bool.and_true, Bool.and_eq_true, cChk]; exact ⟨rfl, rfl, rfl, rfl, rfl, rfl, rfl, rfl, rfl, rfl, rfl, (h.hp).one, (h.hc).one, (h.hg).one, (h.hu).one⟩)) <| OA.ps [(4, yF)] rfl <| OA.nil fun _ => RA.seq hd <| RA.sR hd env_ok <| OA.ps [(9, (Pt n 0 0))] rfl <| oL 10 (.int .i64 d.typ) (get_there (by omega) get_here) <| OA.ps [(11, (.pointer (some ⟨(n + 1), 0, some 0⟩)))] rfl <| oL 12 (.int .i64 d.typ) get_here ?_
 refine oP 13 yF rfl (r_bin rfl rfl rfl (b_neq (by simp))) <| OA.ps [(14, yF), (15, (Pt n 0 1))] rfl <| oL 16 (.int .i64 d.flags) (get_there (by omega) get_here) <| OA.ps [(17, (.pointer (some ⟨(n + 1), 0, some 1⟩)))] rfl <| oL 18 (.int .i64 d.flags) get_here <| oP 19 yF rfl (r_bin rfl rfl rfl (b_neq (by simp))) <| OA.ps [(20, yF), (21, yF), (22, (Pt n 0 2))] rfl <| oL 23 (W d.tsn) (get_there (by omega) get_here) <| OA.ps [(24, (.pointer (some ⟨(n + 1), 0, some 2⟩)))] rfl <| oL 25 (W d.tsn) get_here <| oP 26 yF rfl (r_bin rfl rfl rfl (b_neq (by simp))) ?_
 refine OA.ps [(27, yF), (28, yF), (29, (Pt n 0 3))] rfl <| oL 30 (.int .i64 d.stream) (get_there (by omega) get_here) <| OA.ps [(31, (.pointer (some ⟨(n + 1), 0, some 3⟩)))] rfl <| oL 32 (.int .i64 d.stream) get_here <| oP 33 yF rfl (r_bin rfl rfl rfl (b_neq (by simp))) <| OA.ps [(34, yF), (35, yF), (36, (Pt n 0 4))] rfl <| oL 37 (.int .i64 d.ssn) (get_there (by omega) get_here) <| OA.ps [(38, (.pointer (some ⟨(n + 1), 0, some 4⟩)))] rfl <| oL 39 (.int .i64 d.ssn) get_here <| oP 40 yF rfl (r_bin rfl rfl rfl (b_neq (by simp))) <| OA.ps [(41, yF), (42, yF), (43, (Pt n 0 5))] rfl ?_
 refine oL 44 (W d.proto) (get_there (by omega) get_here) <| OA.ps [(45, (.pointer (some ⟨(n + 1), 0, some 5⟩)))] rfl <| oL 46 (W d.proto) get_here <| oP 47 yF rfl (r_bin rfl rfl rfl (b_neq (by simp))) <| OA.ps [(48, yF), (49, yF), (50, (Pt n 0 6))] rfl <| oL 51 (.string d.data) (get_there (by omega) get_here) <| OA.ps [(52, (.pointer (some ⟨(n + 1), 0, some 6⟩)))] rfl <| oL 53 (.string d.data) get_here <| oP 54 yF rfl (Eq.trans (r_neqS rfl rfl rfl) (by rw [decide_eq_true rfl] <;> rfl)) <| OA.ps [(55, yF), (56, yF), (57, (Pt n 0 7))] rfl <| oL 58 (W d.tag) (get_there (by omega) get_here) ?_
 refine OA.ps [(59, (.pointer (some ⟨(n + 1), 0, some 7⟩)))] rfl <| oL 60 (W d.tag) get_here <| oP 61 yF rfl (r_bin rfl rfl rfl (b_neq (by simp))) <| OA.ps [(62, yF), (63, yF), (64, (Pt n 0 8))] rfl <| oL 65 (W d.rwnd) (get_there (by omega) get_here) <| OA.ps [(66, (.pointer (some ⟨(n + 1), 0, some 8⟩)))] rfl <| oL 67 (W d.rwnd) get_here <| oP 68 yF rfl (r_bin rfl rfl rfl (b_neq (by simp))) <| OA.ps [(69, yF), (70, yF), (71, (Pt n 0 9))] rfl <| oL 72 (.int .i64 d.outs) (get_there (by omega) get_here) <| OA.ps [(73, (.pointer (some ⟨(n + 1), 0, some 9⟩)))] rfl ?_
 refine oL 74 (.int .i64 d.outs) get_here <| oP 75 yF rfl (r_bin rfl rfl rfl (b_neq (by simp))) <| OA.ps [(76, yF), (77, yF), (78, (Pt n 0 10))] rfl <| oL 79 (.int .i64 d.ins) (get_there (by omega) get_here) <| OA.ps [(80, (.pointer (some ⟨(n + 1), 0, some 10⟩)))] rfl <| oL 81 (.int .i64 d.ins) get_here <| oP 82 yF rfl (r_bin rfl rfl rfl (b_neq (by simp))) <| OA.ps [(83, yF), (84, yF), (85, (Pt n 0 11))] rfl <| oL 86 d.pv (get_there (by omega) get_here) <| oP 87 (.int .i64 ((d.ps.length : Nat) : Int)) rfl (r_lenQ (c := cPrm) rfl rfl rfl rfl rfl rfl h.hp rfl) <| OA.ps [(88, (.pointer (some ⟨(n + 1), 0, some 11⟩)))] rfl ?_
 refine oL 89 d.pv get_here <| oP 90 (.int .i64 ((d.ps.length : Nat) : Int)) rfl (r_lenQ (c := cPrm) rfl rfl rfl rfl rfl rfl h.hp rfl) <| oP 91 yF rfl (r_bin rfl rfl rfl (b_neq (by simp))) <| OA.ps [(92, yF), (93, yF), (94, (Pt n 0 12))] rfl <| oL 95 d.cv (get_there (by omega) get_here) <| oP 96 (.int .i64 ((d.cs.length : Nat) : Int)) rfl (r_lenQ (c := cCau) rfl rfl rfl rfl rfl rfl h.hc rfl) <| OA.ps [(97, (.pointer (some ⟨(n + 1), 0, some 12⟩)))] rfl <| oL 98 d.cv get_here <| oP 99 (.int .i64 ((d.cs.length : Nat) : Int)) rfl (r_lenQ (c := cCau) rfl rfl rfl rfl rfl rfl h.hc rfl) <| oP 100 yF rfl (r_bin rfl rfl rfl (b_neq (by simp))) <| OA.ps [(101, yF), (102, yF), (103, (Pt n 0 13))] rfl ?_
 refine oL 104 d.gv (get_there (by omega) get_here) <| oP 105 (.int .i64 ((d.gs.length : Nat) : Int)) rfl (r_lenQ (c := cGp) rfl rfl rfl rfl rfl rfl h.hg rfl) <| OA.ps [(106, (.pointer (some ⟨(n + 1), 0, some 13⟩)))] rfl <| oL 107 d.gv get_here <| oP 108 (.int .i64 ((d.gs.length : Nat) : Int)) rfl (r_lenQ (c := cGp) rfl rfl rfl rfl rfl rfl h.hg rfl) <| oP 109 yF rfl (r_bin rfl rfl rfl (b_neq (by simp))) <| OA.ps [(110, yF), (111, yF), (112, (Pt n 0 14))] rfl <| oL 113 d.dv (get_there (by omega) get_here) <| oP 114 (.int .i64 ((d.ds.length : Nat) : Int)) rfl (r_lenQ (c := cDp) rfl rfl rfl rfl rfl rfl h.hu rfl) <| OA.ps [(115, (.pointer (some ⟨(n + 1), 0, some 14⟩)))] rfl <| oL 116 d.dv get_here ?_
 refine oP 117 (.int .i64 ((d.ds.length : Nat) : Int)) rfl (r_lenQ (c := cDp) rfl rfl rfl rfl rfl rfl h.hu rfl) <| oP 118 yF rfl (r_bin rfl rfl rfl (b_neq (by simp))) <| OA.ps [(119, yF)] rfl <| OA.nil fun _ => RA.rb [(0, (.agg ⟨(cChk d)⟩)), (1, (.agg ⟨(cChk d)⟩)), (2, (Pt n 0 0)), (3, (.pointer (some ⟨(n + 1), 0, some 0⟩))), (4, yF), (119, yF)] rfl (fun τr1 => ?_)
 refine RA.condF rfl <| RA.skip env_ok ?_
 intro _
 refine RA.seq hd <| RA.sR hd env_ok <| OA.ps [(5, (.int .i64 0))] rfl <| OA.nil fun _ => RA.block ?_
 refine RA.loop hd (fun kk_ τ n' D => (∃ i : Nat, kk_ = (d.ps.length - i) ∧ (n + 2) ≤ n' ∧ Has τ [(2, (Pt n 0 0)), (3, (.pointer (some ⟨(n + 1), 0, some 0⟩))), (5, (.int .i64 ((i : Nat) : Int)))] ∧ D = [((n + 1), some ⟨[(cChk d)], 15, 54, true⟩), (n, some ⟨[(cChk d)], 15, 54, true⟩)] ∧ (∀ i ∈ keys D, i < n') ∧ i ≤ d.ps.length)) ((d.ps.length - 0)) (⟨0, rfl, by omega, ⟨rfl, rfl, rfl, trivial⟩, rfl, (kb2 (by omega)), by omega⟩) ?_
 rintro kn2 τ2 n2 _ ⟨i, rfl, hn2, hHn2, rfl, hKn2, hIn2⟩
 rw [Has.eq hHn2]
 have hKn2_0 := kk0 hKn2
 have hKn2_1 := kk1 hKn2
 clear hKn2
 have hil := hIn2
 refine RA.seq hd <| RA.sR hd env_ok <| OA.ps [(120, (.int .i64 ((i : Nat) : Int))), (121, (Pt n 0 11))] rfl <| oL 122 d.pv (get_there (by omega) get_here) <| oP 123 (.int .i64 ((d.ps.length : Nat) : Int)) rfl (r_lenQ (c := cPrm) rfl rfl rfl rfl rfl rfl h.hp rfl) ?_
 by_cases hc1 : ((i : Nat) : Int) < ((d.ps.length : Nat) : Int)
 ·
  obtain ⟨rps, wqhatps, hatps⟩ := h.hp.get (m := i) (by omega)
  have lathatps := hd.lt hatps
  refine oP 124 yT rfl (Eq.trans (r_bin rfl rfl rfl (b_lss rfl)) (Go.Proofs.YtdnkhdkflemkeaaV.dT hc1)) <| OA.nil fun _ => RA.condT rfl <| RA.skip env_ok ?_
  intro _
  refine RA.seq hd <| RA.block <| RA.seq hd <| RA.par (md := [some [], some [n], some [], none, none, some [], some [(n + 1)], some [], none, none, some []]) env_ok (hd.of (by omega) (kb2 (by omega))) (by kernel_rfl) <| PQ.ps [(127, (Pt n 0 11))] rfl <| pQl 128 d.pv (get_there (by omega) get_here) <| PQ.ps [(129, (.int .i64 ((i : Nat) : Int)))] rfl <| PQ.pure (dst := (some 130)) (v := (.pointer (some ⟨(rk d.pv), i, some 0⟩))) rfl rfl rfl _ (sA (V := []) (by kernel_rfl) (by kernel_rfl)) (r_iaQ (c := cPrm) (m := i) rfl rfl rfl rfl rfl rfl h.hp rfl (by omega) (gt2 (by omega) hatps) rfl) <| PQ.pure (dst := (some 131)) (v := (.agg ⟨(cPrm (d.ps.getD i dPrm))⟩)) rfl rfl rfl _ (sA (V := []) (by kernel_rfl) (by kernel_rfl)) (r_loadA (e := cPrm (d.ps.getD i dPrm)) rfl rfl rfl rfl (gt2 (by omega) hatps) (mp_getA (by omega)) rfl rfl) <| PQ.ps [(132, (.pointer (some ⟨(n + 1), 0, some 11⟩)))] rfl <| pQl 133 d.pv get_here ?_
  refine PQ.ps [(134, (.int .i64 ((i : Nat) : Int)))] rfl <| PQ.pure (dst := (some 135)) (v := (.pointer (some ⟨(rk d.pv), i, some 0⟩))) rfl rfl rfl _ (sA (V := []) (by kernel_rfl) (by kernel_rfl)) (r_iaQ (c := cPrm) (m := i) rfl rfl rfl rfl rfl rfl h.hp rfl (by omega) (gt2 (by omega) hatps) rfl) <| PQ.pure (dst := (some 136)) (v := (.agg ⟨(cPrm (d.ps.getD i dPrm))⟩)) rfl rfl rfl _ (sA (V := []) (by kernel_rfl) (by kernel_rfl)) (r_loadA (e := cPrm (d.ps.getD i dPrm)) rfl rfl rfl rfl (gt2 (by omega) hatps) (mp_getA (by omega)) rfl rfl) <| pP 137 yF rfl (r_neqA (r := true) rfl rfl rfl (by kernel_rfl) (aeq_self _ _ _ (by kernel_rfl))) <| PQ.done (d := []) (by kernel_rfl) fun _ => RA.condF rfl <| RA.skip env_ok ?_
  intro _
  refine RA.region env_ok <| OA.ps [(125, (.int .i64 ((i : Nat) : Int)))] rfl <| oP 126 (.int .i64 (((i + 1) : Nat) : Int)) rfl (r_bin rfl rfl rfl (b_add (i64_eq (by omega)))) <| OA.ps [(5, (.int .i64 (((i + 1) : Nat) : Int)))] rfl <| OA.nil ?_
  refine ⟨(d.ps.length - (i + 1)), by omega, [((n + 1), some ⟨[(cChk d)], 15, 54, true⟩), (n, some ⟨[(cChk d)], 15, 54, true⟩)], (Less.refl _ _ _), ⟨(i + 1), rfl, by omega, ⟨rfl, rfl, rfl, trivial⟩, rfl, (kb2 (by omega)), by omega⟩⟩
 ·
  refine oP 124 yF rfl (Eq.trans (r_bin rfl rfl rfl (b_lss rfl)) (Go.Proofs.YtdnkhdkflemkeaaV.dF hc1)) <| OA.nil fun _ => RA.condF rfl ?_
  refine RA.exit env_ok ?_
  intro _
  refine RA.seq hd <| RA.sR hd env_ok <| OA.ps [(6, (.int .i64 0))] rfl <| OA.nil fun _ => RA.block ?_
  refine RA.loop hd (fun kk_ τ n' D => (∃ i : Nat, kk_ = (d.cs.length - i) ∧ n2 ≤ n' ∧ Has τ [(2, (Pt n 0 0)), (3, (.pointer (some ⟨(n + 1), 0, some 0⟩))), (6, (.int .i64 ((i : Nat) : Int))), (121, (Pt n 0 11))] ∧ D = [((n + 1), some ⟨[(cChk d)], 15, 54, true⟩), (n, some ⟨[(cChk d)], 15, 54, true⟩)] ∧ (∀ i ∈ keys D, i < n') ∧ i ≤ d.cs.length)) ((d.cs.length - 0)) (⟨0, rfl, by omega, ⟨rfl, rfl, rfl, rfl, trivial⟩, rfl, (kb2 (by omega)), by omega⟩) ?_
  rintro kn3 τ3 n3 _ ⟨i, rfl, hn3, hHn3, rfl, hKn3, hIn3⟩
  rw [Has.eq hHn3]
  have hKn3_0 := kk0 hKn3
  have hKn3_1 := kk1 hKn3
  clear hKn3
  have hil := hIn3
  refine RA.seq hd <| RA.sR hd env_ok <| OA.ps [(138, (.int .i64 ((i : Nat) : Int))), (139, (Pt n 0 12))] rfl <| oL 140 d.cv (get_there (by omega) get_here) <| oP 141 (.int .i64 ((d.cs.length : Nat) : Int)) rfl (r_lenQ (c := cCau) rfl rfl rfl rfl rfl rfl h.hc rfl) ?_
  by_cases hc2 : ((i : Nat) : Int) < ((d.cs.length : Nat) : Int)
  ·
   obtain ⟨rcs, wqhatcs, hatcs⟩ := h.hc.get (m := i) (by omega)
   have lathatcs := hd.lt hatcs
   refine oP 142 yT rfl (Eq.trans (r_bin rfl rfl rfl (b_lss rfl)) (Go.Proofs.YtdnkhdkflemkeaaV.dT hc2)) <| OA.nil fun _ => RA.condT rfl <| RA.skip env_ok ?_
   intro _
   refine RA.seq hd <| RA.block <| RA.seq hd <| RA.par (md := [some [], some [n], some [], none, none, some [], some [(n + 1)], some [], none, none, some []]) env_ok (hd.of (by omega) (kb2 (by omega))) (by kernel_rfl) <| PQ.ps [(145, (Pt n 0 12))] rfl <| pQl 146 d.cv (get_there (by omega) get_here) <| PQ.ps [(147, (.int .i64 ((i : Nat) : Int)))] rfl <| PQ.pure (dst := (some 148)) (v := (.pointer (some ⟨(rk d.cv), i, some 0⟩))) rfl rfl rfl _ (sA (V := []) (by kernel_rfl) (by kernel_rfl)) (r_iaQ (c := cCau) (m := i) rfl rfl rfl rfl rfl rfl h.hc rfl (by omega) (gt2 (by omega) hatcs) rfl) <| PQ.pure (dst := (some 149)) (v := (.agg ⟨(cCau (d.cs.getD i dCau))⟩)) rfl rfl rfl _ (sA (V := []) (by kernel_rfl) (by kernel_rfl)) (r_loadA (e := cCau (d.cs.getD i dCau)) rfl rfl rfl rfl (gt2 (by omega) hatcs) (mp_getA (by omega)) rfl rfl) <| PQ.ps [(150, (.pointer (some ⟨(n + 1), 0, some 12⟩)))] rfl <| pQl 151 d.cv get_here ?_
   refine PQ.ps [(152, (.int .i64 ((i : Nat) : Int)))] rfl <| PQ.pure (dst := (some 153)) (v := (.pointer (some ⟨(rk d.cv), i, some 0⟩))) rfl rfl rfl _ (sA (V := []) (by kernel_rfl) (by kernel_rfl)) (r_iaQ (c := cCau) (m := i) rfl rfl rfl rfl rfl rfl h.hc rfl (by omega) (gt2 (by omega) hatcs) rfl) <| PQ.pure (dst := (some 154)) (v := (.agg ⟨(cCau (d.cs.getD i dCau))⟩)) rfl rfl rfl _ (sA (V := []) (by kernel_rfl) (by kernel_rfl)) (r_loadA (e := cCau (d.cs.getD i dCau)) rfl rfl rfl rfl (gt2 (by omega) hatcs) (mp_getA (by omega)) rfl rfl) <| pP 155 yF rfl (r_neqA (r := true) rfl rfl rfl (by kernel_rfl) (aeq_self _ _ _ (by kernel_rfl))) <| PQ.done (d := []) (by kernel_rfl) fun _ => RA.condF rfl <| RA.skip env_ok ?_
   intro _
   refine RA.region env_ok <| OA.ps [(143, (.int .i64 ((i : Nat) : Int)))] rfl <| oP 144 (.int .i64 (((i + 1) : Nat) : Int)) rfl (r_bin rfl rfl rfl (b_add (i64_eq (by omega)))) <| OA.ps [(6, (.int .i64 (((i + 1) : Nat) : Int)))] rfl <| OA.nil ?_
   refine ⟨(d.cs.length - (i + 1)), by omega, [((n + 1), some ⟨[(cChk d)], 15, 54, true⟩), (n, some ⟨[(cChk d)], 15, 54, true⟩)], (Less.refl _ _ _), ⟨(i + 1), rfl, by omega, ⟨rfl, rfl, rfl, rfl, trivial⟩, rfl, (kb2 (by omega)), by omega⟩⟩
  ·
   refine oP 142 yF rfl (Eq.trans (r_bin rfl rfl rfl (b_lss rfl)) (Go.Proofs.YtdnkhdkflemkeaaV.dF hc2)) <| OA.nil fun _ => RA.condF rfl ?_
   refine RA.exit env_ok ?_
   intro _
   refine RA.seq hd <| RA.sR hd env_ok <| OA.ps [(7, (.int .i64 0))] rfl <| OA.nil fun _ => RA.block ?_
   refine RA.loop hd (fun kk_ τ n' D => (∃ i : Nat, kk_ = (d.gs.length - i) ∧ n3 ≤ n' ∧ Has τ [(2, (Pt n 0 0)), (3, (.pointer (some ⟨(n + 1), 0, some 0⟩))), (7, (.int .i64 ((i : Nat) : Int))), (121, (Pt n 0 11)), (139, (Pt n 0 12))] ∧ D = [((n + 1), some ⟨[(cChk d)], 15, 54, true⟩), (n, some ⟨[(cChk d)], 15, 54, true⟩)] ∧ (∀ i ∈ keys D, i < n') ∧ i ≤ d.gs.length)) ((d.gs.length - 0)) (⟨0, rfl, by omega, ⟨rfl, rfl, rfl, rfl, rfl, trivial⟩, rfl, (kb2 (by omega)), by omega⟩) ?_
   rintro kn4 τ4 n4 _ ⟨i, rfl, hn4, hHn4, rfl, hKn4, hIn4⟩
   rw [Has.eq hHn4]
   have hKn4_0 := kk0 hKn4
   have hKn4_1 := kk1 hKn4
   clear hKn4
   have hil := hIn4
   refine RA.seq hd <| RA.sR hd env_ok <| OA.ps [(156, (.int .i64 ((i : Nat) : Int))), (157, (Pt n 0 13))] rfl <| oL 158 d.gv (get_there (by omega) get_here) <| oP 159 (.int .i64 ((d.gs.length : Nat) : Int)) rfl (r_lenQ (c := cGp) rfl rfl rfl rfl rfl rfl h.hg rfl) ?_
   by_cases hc3 : ((i : Nat) : Int) < ((d.gs.length : Nat) : Int)
   ·
    obtain ⟨rgs, wqhatgs, hatgs⟩ := h.hg.get (m := i) (by omega)
    have lathatgs := hd.lt hatgs
    refine oP 160 yT rfl (Eq.trans (r_bin rfl rfl rfl (b_lss rfl)) (Go.Proofs.YtdnkhdkflemkeaaV.dT hc3)) <| OA.nil fun _ => RA.condT rfl <| RA.skip env_ok ?_
    intro _
    refine RA.seq hd <| RA.block <| RA.seq hd <| RA.par (md := [some [], some [n], some [], none, none, some [], some [(n + 1)], some [], none, none, some []]) env_ok (hd.of (by omega) (kb2 (by omega))) (by kernel_rfl) <| PQ.ps [(163, (Pt n 0 13))] rfl <| pQl 164 d.gv (get_there (by omega) get_here) <| PQ.ps [(165, (.int .i64 ((i : Nat) : Int)))] rfl <| PQ.pure (dst := (some 166)) (v := (.pointer (some ⟨(rk d.gv), i, some 0⟩))) rfl rfl rfl _ (sA (V := []) (by kernel_rfl) (by kernel_rfl)) (r_iaQ (c := cGp) (m := i) rfl rfl rfl rfl rfl rfl h.hg rfl (by omega) (gt2 (by omega) hatgs) rfl) <| PQ.pure (dst := (some 167)) (v := (.agg ⟨(cGp (d.gs.getD i dGp))⟩)) rfl rfl rfl _ (sA (V := []) (by kernel_rfl) (by kernel_rfl)) (r_loadA (e := cGp (d.gs.getD i dGp)) rfl rfl rfl rfl (gt2 (by omega) hatgs) (mp_getA (by omega)) rfl rfl) <| PQ.ps [(168, (.pointer (some ⟨(n + 1), 0, some 13⟩)))] rfl <| pQl 169 d.gv get_here ?_
    refine PQ.ps [(170, (.int .i64 ((i : Nat) : Int)))] rfl <| PQ.pure (dst := (some 171)) (v := (.pointer (some ⟨(rk d.gv), i, some 0⟩))) rfl rfl rfl _ (sA (V := []) (by kernel_rfl) (by kernel_rfl)) (r_iaQ (c := cGp) (m := i) rfl rfl rfl rfl rfl rfl h.hg rfl (by omega) (gt2 (by omega) hatgs) rfl) <| PQ.pure (dst := (some 172)) (v := (.agg ⟨(cGp (d.gs.getD i dGp))⟩)) rfl rfl rfl _ (sA (V := []) (by kernel_rfl) (by kernel_rfl)) (r_loadA (e := cGp (d.gs.getD i dGp)) rfl rfl rfl rfl (gt2 (by omega) hatgs) (mp_getA (by omega)) rfl rfl) <| pP 173 yF rfl (r_neqA (r := true) rfl rfl rfl (by kernel_rfl) (aeq_self _ _ _ (by kernel_rfl))) <| PQ.done (d := []) (by kernel_rfl) fun _ => RA.condF rfl <| RA.skip env_ok ?_
    intro _
    refine RA.region env_ok <| OA.ps [(161, (.int .i64 ((i : Nat) : Int)))] rfl <| oP 162 (.int .i64 (((i + 1) : Nat) : Int)) rfl (r_bin rfl rfl rfl (b_add (i64_eq (by omega)))) <| OA.ps [(7, (.int .i64 (((i + 1) : Nat) : Int)))] rfl <| OA.nil ?_
    refine ⟨(d.gs.length - (i + 1)), by omega, [((n + 1), some ⟨[(cChk d)], 15, 54, true⟩), (n, some ⟨[(cChk d)], 15, 54, true⟩)], (Less.refl _ _ _), ⟨(i + 1), rfl, by omega, ⟨rfl, rfl, rfl, rfl, rfl, trivial⟩, rfl, (kb2 (by omega)), by omega⟩⟩
   ·
    refine oP 160 yF rfl (Eq.trans (r_bin rfl rfl rfl (b_lss rfl)) (Go.Proofs.YtdnkhdkflemkeaaV.dF hc3)) <| OA.nil fun _ => RA.condF rfl ?_
    refine RA.exit env_ok ?_
    intro _
    refine RA.seq hd <| RA.sR hd env_ok <| OA.ps [(8, (.int .i64 0))] rfl <| OA.nil fun _ => RA.block ?_
    refine RA.loop hd (fun kk_ τ n' D => (∃ i : Nat, kk_ = (d.ds.length - i) ∧ n4 ≤ n' ∧ Has τ [(2, (Pt n 0 0)), (3, (.pointer (some ⟨(n + 1), 0, some 0⟩))), (8, (.int .i64 ((i : Nat) : Int))), (121, (Pt n 0 11)), (139, (Pt n 0 12)), (157, (Pt n 0 13))] ∧ D = [((n + 1), some ⟨[(cChk d)], 15, 54, true⟩), (n, some ⟨[(cChk d)], 15, 54, true⟩)] ∧ (∀ i ∈ keys D, i < n') ∧ i ≤ d.ds.length)) ((d.ds.length - 0)) (⟨0, rfl, by omega, ⟨rfl, rfl, rfl, rfl, rfl, rfl, trivial⟩, rfl, (kb2 (by omega)), by omega⟩) ?_
    rintro kn5 τ5 n5 _ ⟨i, rfl, hn5, hHn5, rfl, hKn5, hIn5⟩
    rw [Has.eq hHn5]
    have hKn5_0 := kk0 hKn5
    have hKn5_1 := kk1 hKn5
    clear hKn5
    have hil := hIn5
    refine RA.seq hd <| RA.sR hd env_ok <| OA.ps [(174, (.int .i64 ((i : Nat) : Int))), (175, (Pt n 0 14))] rfl <| oL 176 d.dv (get_there (by omega) get_here) <| oP 177 (.int .i64 ((d.ds.length : Nat) : Int)) rfl (r_lenQ (c := cDp) rfl rfl rfl rfl rfl rfl h.hu rfl) ?_
    by_cases hc4 : ((i : Nat) : Int) < ((d.ds.length : Nat) : Int)
    ·
     obtain ⟨rds, wqhatds, hatds⟩ := h.hu.get (m := i) (by omega)
     have lathatds := hd.lt hatds
     refine oP 178 yT rfl (Eq.trans (r_bin rfl rfl rfl (b_lss rfl)) (Go.Proofs.YtdnkhdkflemkeaaV.dT hc4)) <| OA.nil fun _ => RA.condT rfl <| RA.skip env_ok ?_
     intro _
     refine RA.seq hd <| RA.block <| RA.seq hd <| RA.par (md := [some [], some [n], some [], none, none, some [], some [(n + 1)], some [], none, none, some []]) env_ok (hd.of (by omega) (kb2 (by omega))) (by kernel_rfl) <| PQ.ps [(181, (Pt n 0 14))] rfl <| pQl 182 d.dv (get_there (by omega) get_here) <| PQ.ps [(183, (.int .i64 ((i : Nat) : Int)))] rfl <| PQ.pure (dst := (some 184)) (v := (.pointer (some ⟨(rk d.dv), i, some 0⟩))) rfl rfl rfl _ (sA (V := []) (by kernel_rfl) (by kernel_rfl)) (r_iaQ (c := cDp) (m := i) rfl rfl rfl rfl rfl rfl h.hu rfl (by omega) (gt2 (by omega) hatds) rfl) <| PQ.pure (dst := (some 185)) (v := (W (d.ds.getD i dDp).x)) rfl rfl rfl _ (sA (V := []) (by kernel_rfl) (by kernel_rfl)) (r_load1 (e := cDp (d.ds.getD i dDp)) rfl rfl rfl rfl rfl (gt2 (by omega) hatds) (mp_getA (by omega)) rfl) <| PQ.ps [(186, (.pointer (some ⟨(n + 1), 0, some 14⟩)))] rfl <| pQl 187 d.dv get_here ?_
     refine PQ.ps [(188, (.int .i64 ((i : Nat) : Int)))] rfl <| PQ.pure (dst := (some 189)) (v := (.pointer (some ⟨(rk d.dv), i, some 0⟩))) rfl rfl rfl _ (sA (V := []) (by kernel_rfl) (by kernel_rfl)) (r_iaQ (c := cDp) (m := i) rfl rfl rfl rfl rfl rfl h.hu rfl (by omega) (gt2 (by omega) hatds) rfl) <| PQ.pure (dst := (some 190)) (v := (W (d.ds.getD i dDp).x)) rfl rfl rfl _ (sA (V := []) (by kernel_rfl) (by kernel_rfl)) (r_load1 (e := cDp (d.ds.getD i dDp)) rfl rfl rfl rfl rfl (gt2 (by omega) hatds) (mp_getA (by omega)) rfl) <| pP 191 yF rfl (r_bin rfl rfl rfl (b_neq (by simp))) <| PQ.done (d := []) (by kernel_rfl) fun _ => RA.condF rfl <| RA.skip env_ok ?_
     intro _
     refine RA.region env_ok <| OA.ps [(179, (.int .i64 ((i : Nat) : Int)))] rfl <| oP 180 (.int .i64 (((i + 1) : Nat) : Int)) rfl (r_bin rfl rfl rfl (b_add (i64_eq (by omega)))) <| OA.ps [(8, (.int .i64 (((i + 1) : Nat) : Int)))] rfl <| OA.nil ?_
     refine ⟨(d.ds.length - (i + 1)), by omega, [((n + 1), some ⟨[(cChk d)], 15, 54, true⟩), (n, some ⟨[(cChk d)], 15, 54, true⟩)], (Less.refl _ _ _), ⟨(i + 1), rfl, by omega, ⟨rfl, rfl, rfl, rfl, rfl, rfl, trivial⟩, rfl, (kb2 (by omega)), by omega⟩⟩
    ·
     refine oP 178 yF rfl (Eq.trans (r_bin rfl rfl rfl (b_lss rfl)) (Go.Proofs.YtdnkhdkflemkeaaV.dF hc4)) <| OA.nil fun _ => RA.condF rfl ?_
     refine RA.exit env_ok ?_
     intro _
     refine RA.sR hd env_ok <| OA.ps [(4, yT)] rfl <| OA.nil fun _ => ?_
     refine RA.ret env_ok ?_
     exact lf yT rfl
theorem rSameAll {σ : Store} (j1 o1 N1 : Nat) (l1 : List Chk) (hl1 : l1.length = N1) (j2 M : Nat) (l2 : List Chk) (hl2 : l2.length = M) (hM : o1 + M = N1) (hN : N1 ≤ 7) (he : l1.drop o1 = l2) (hx : ∀ c ∈ l2, gd σ c) (hj1 : σ j1 = some (oChk l1)) (hj2 : σ j2 = some (oChk l2))  : PS Try.prog noDen 33 [(.slice (some ⟨j1, o1, none⟩) M 0), (.slice (some ⟨j2, 0, none⟩) M 0)] σ (.bool true) := by
 have heq : ∀ i, i < M → l1.getD (o1 + i) dChk = l2.getD i dChk := fun i hi => by rw [← he, List.getD_eq_getElem?_getD, List.getD_eq_getElem?_getD, List.getElem?_drop]
 refine PS.body (E := env) env_ok rfl rfl (by show _ ≤ _; exact of_decide_eq_true (by kernel_rfl)) (fun n hd => ?_)
 have lhj1 := hd.lt hj1
 have lhj2 := hd.lt hj2
 refine RA.sR hd env_ok <| OA.ps [(4, yF)] rfl <| OA.nil fun _ => RA.seq hd <| RA.sR hd env_ok <| OA.ps [(6, (.slice (some ⟨j1, o1, none⟩) M 0)), (7, (.int .i64 ((M : Nat) : Int))), (8, (.slice (some ⟨j2, 0, none⟩) M 0)), (9, (.int .i64 ((M : Nat) : Int)))] rfl <| oP 10 yF rfl (r_bin rfl rfl rfl (b_neq (by simp))) <| OA.nil fun _ => RA.condF rfl <| RA.skip env_ok ?_
 intro _
 refine RA.seq hd <| RA.sR hd env_ok <| OA.ps [(5, (.int .i64 0))] rfl <| OA.nil fun _ => RA.block ?_
 refine RA.loop hd (fun kk_ τ n' D => (∃ i : Nat, kk_ = (M - i) ∧ n ≤ n' ∧ Has τ [(0, (.slice (some ⟨j1, o1, none⟩) M 0)), (1, (.slice (some ⟨j2, 0, none⟩) M 0)), (5, (.int .i64 ((i : Nat) : Int)))] ∧ D = [] ∧ (∀ i ∈ keys D, i < n') ∧ i ≤ M)) ((M - 0)) (⟨0, rfl, by omega, ⟨rfl, rfl, rfl, trivial⟩, rfl, (fun i hi => by cases hi), by omega⟩) ?_
 rintro kn1 τ1 n1 _ ⟨i, rfl, hn1, hHn1, rfl, hKn1, hIn1⟩
 rw [Has.eq hHn1]
 have hil := hIn1
 refine RA.seq hd <| RA.sR hd env_ok <| OA.ps [(11, (.int .i64 ((i : Nat) : Int))), (12, (.slice (some ⟨j1, o1, none⟩) M 0)), (13, (.int .i64 ((M : Nat) : Int)))] rfl ?_
 by_cases hc1 : ((i : Nat) : Int) < ((M : Nat) : Int)
 ·
  refine oP 14 yT rfl (Eq.trans (r_bin rfl rfl rfl (b_lss rfl)) (Go.Proofs.YtdnkhdkflemkeaaV.dT hc1)) <| OA.nil fun _ => RA.condT rfl <| RA.skip env_ok ?_
  intro _
  refine RA.seq hd <| RA.block <| RA.seq hd <| RA.par (md := [some [], some [], some [j1], some [j1], some [], some [], some [j2], some [j2], none, some []]) env_ok (hd.up (by omega)) (by kernel_rfl) <| PQ.ps [(17, (.slice (some ⟨j1, o1, none⟩) M 0)), (18, (.int .i64 ((i : Nat) : Int)))] rfl <| pQL 19 (.pointer (some ⟨j1, (o1 + i), some 0⟩)) (V := []) rfl (by kernel_rfl) (by kernel_rfl) hj1 (r_iaS (l := i) rfl rfl rfl rfl rfl rfl (by omega) (by omega) get_here rfl (by omega)) <| pQL 20 (.agg ⟨(cChk (l1.getD (o1 + i) dChk))⟩) (V := []) rfl (by kernel_rfl) (by kernel_rfl) hj1 (r_loadR (c := cChk) dChk rfl rfl rfl rfl get_here (by rw [hl1]; omega) rfl) <| PQ.ps [(21, (.slice (some ⟨j2, 0, none⟩) M 0)), (22, (.int .i64 ((i : Nat) : Int)))] rfl <| pQL 23 (Pt j2 i 0) (V := []) rfl (by kernel_rfl) (by kernel_rfl) hj2 (r_iaS (l := i) rfl rfl rfl rfl rfl rfl (by omega) (by omega) get_here rfl (by omega)) <| pQL 24 (.agg ⟨(cChk (l2.getD i dChk))⟩) (V := []) rfl (by kernel_rfl) (by kernel_rfl) hj2 (r_loadR (c := cChk) dChk rfl rfl rfl rfl get_here (by rw [hl2]; omega) rfl) <| pA 25 (v := yT) (V := []) (hd.up (by omega)) rfl rfl (by kernel_rfl) (by kernel_rfl) (by rw [show (l1.getD (o1 + i) dChk) = (l2.getD i dChk) from heq i (by omega)]; exact rSame (l2.getD i dChk) (hx _ (getD_mem (by omega)))) fun n2 hn2 => ?_
  refine PQ.ps [(26, yF)] rfl <| PQ.done (d := []) (by kernel_rfl) fun _ => RA.condF rfl <| RA.skip env_ok ?_
  intro _
  refine RA.region env_ok <| OA.ps [(15, (.int .i64 ((i : Nat) : Int)))] rfl <| oP 16 (.int .i64 (((i + 1) : Nat) : Int)) rfl (r_bin rfl rfl rfl (b_add (i64_eq (by omega)))) <| OA.ps [(5, (.int .i64 (((i + 1) : Nat) : Int)))] rfl <| OA.nil ?_
  refine ⟨(M - (i + 1)), by omega, [], (Less.refl _ _ _), ⟨(i + 1), rfl, by omega, ⟨rfl, rfl, rfl, trivial⟩, rfl, (fun i hi => by cases hi), by omega⟩⟩
 ·
  refine oP 14 yF rfl (Eq.trans (r_bin rfl rfl rfl (b_lss rfl)) (Go.Proofs.YtdnkhdkflemkeaaV.dF hc1)) <| OA.nil fun _ => RA.condF rfl ?_
  refine RA.exit env_ok ?_
  intro _
  refine RA.sR hd env_ok <| OA.ps [(4, yT)] rfl <| OA.nil fun _ => ?_
  refine RA.ret env_ok ?_
  exact lf yT rfl
end Go.Proofs.Ytdnkhdkflemkeaa.Vt.Cp
/- Ap3: walks through functions of the program, by the calculus; written by a program of this workplace. -/
namespace Go.Proofs.Ytdnkhdkflemkeaa.Vt.Cp
open Go Go.Proofs Go.Proofs.YtdnkhdkflemkeaaV
set_option maxRecDepth 100000
set_option linter.unusedVariables false
set_option linter.unusedSimpArgs false
set_option maxHeartbeats 8000000
abbrev cutD (c : Chk) (j0 j1 : Nat) : Chk := Chk.mk c.typ c.flags c.tsn c.stream c.ssn c.proto (c.data.extract 0 (min c.data.size 950)) c.tag c.rwnd c.outs c.ins (.slice (some ⟨j0, 0, none⟩) (min c.ps.length 18) 0) (.slice (some ⟨j1, 0, none⟩) (min c.cs.length 18) 0) (cutV c.gv (min c.gs.length 18)) (cutV c.dv (min c.ds.length 18)) ((c.ps.take (min c.ps.length 18)).map cutPrm) ((c.cs.take (min c.cs.length 18)).map cutCau) (c.gs.take (min c.gs.length 18)) (c.ds.take (min c.ds.length 18))
def okIn (σ : Store) (c : Chk) : Prop := okChk σ c ∧ c.flags < 9223372036854775808 ∧ ∀ g ∈ c.gs, g.lo < 9223372036854775808
theorem okChk_mono {σ σ' : Store} (hs : Sub σ σ') {c : Chk} (h : okChk σ c) : okChk σ' c := ⟨h.1.mono hs, h.2.1.mono hs, h.2.2.1.mono hs, h.2.2.2.mono hs⟩
theorem okIn.mono {σ σ' : Store} (hs : Sub σ σ') {c : Chk} (h : okIn σ c) : okIn σ' c := ⟨okChk_mono hs h.1, h.2⟩
theorem gd_cut {σ σ' : Store} {c : Chk} {j0 j1 : Nat} (h : okIn σ c) (hk : Keep 54 σ σ') (h0 : σ' j0 = some (oPrm ((c.ps.take (min c.ps.length 18)).map cutPrm))) (h1 : σ' j1 = some (oCau ((c.cs.take (min c.cs.length 18)).map cutCau))) : gd σ' (cutD c j0 j1) where
  hp := RowQ.new h0 (cutPrm_len (by omega))
  hc := RowQ.new h1 (cutCau_len (by omega))
  hg := rowq_keep hk (by decide) (h.1.2.2.1.cutR (min c.gs.length 18) (by omega)).Q
  hu := rowq_keep hk (by decide) (h.1.2.2.2.cutR (min c.ds.length 18) (by omega)).Q
  p18 := by show ((c.ps.take (min c.ps.length 18)).map cutPrm).length ≤ 18; rw [cutPrm_len (by omega)]; omega
  c18 := by show ((c.cs.take (min c.cs.length 18)).map cutCau).length ≤ 18; rw [cutCau_len (by omega)]; omega
  g18 := by show (c.gs.take (min c.gs.length 18)).length ≤ 18; rw [List.length_take]; omega
  u18 := by show (c.ds.take (min c.ds.length 18)).length ≤ 18; rw [List.length_take]; omega
  fl := h.2.1
  gr := fun g hg => h.2.2 g (List.mem_of_mem_take hg)
theorem keys_two {n0 n1 n' : Nat} {D1 D2 : Delta} (h1 : ∀ q ∈ keys D1, n0 ≤ q ∧ q < n1) (hn : n1 ≤ n') (h2 : ∀ q ∈ keys D2, n0 ≤ q ∧ q < n') : ∀ q ∈ keys (D2 ++ D1), n0 ≤ q ∧ q < n' := by
  intro q hq
  rw [keys_append, List.mem_append] at hq
  rcases hq with hq | hq
  · exact h2 q hq
  · have := h1 q hq; omega
theorem less_app {n0 n1 n' : Nat} {D D' D1 : Delta} (h0 : n0 ≤ n1) (hk : ∀ q ∈ keys D1, q < n1) (h : Less n1 n' D D') : Less n0 n' (D ++ D1) (D' ++ D1) := by
  refine ⟨fun x hx => ?_, fun x hx => ?_⟩
  · rw [keys_append, List.mem_append] at hx
    by_cases hd : x ∈ keys D'
    · obtain ⟨k1, k2⟩ := h.sub x hd
      exact ⟨by rw [keys_append, List.mem_append]; exact .inl k1, fun υ => by rw [app_append, app_append]; exact k2 _⟩
    · have hD := hx.resolve_left hd
      have he : x ∉ keys D := fun he => (h.gone x he).elim hd fun q => by have := hk x hD; omega
      exact ⟨by rw [keys_append, List.mem_append]; exact .inr hD, fun υ => by rw [app_append, app_append, app_off hd, app_off he]⟩
  · rw [keys_append, List.mem_append] at hx
    rcases hx with hx | hx
    · rcases h.gone x hx with h | h
      · exact .inl (by rw [keys_append, List.mem_append]; exact .inl h)
      · exact .inr ⟨by omega, h.2⟩
    · exact .inl (by rw [keys_append, List.mem_append]; exact .inr hx)
theorem lCutAll {n : Nat} {σ : Store} (hd : Dom n σ) (hn0 : 0 < n) (v : Value) (l : List Chk) (hv : RowP σ 54 15 v (l.map cChk)) (hin0 : ∀ c ∈ l, okIn σ c) : CQ Try.prog noDen 30 [v] n σ (fun v n' d => ∃ j N xs, v = .slice (some ⟨j, 0, none⟩) N 0 ∧ n ≤ j ∧ app d σ j = some (oChk xs) ∧ xs.length = N ∧ N ≤ 6 ∧ (∀ c ∈ xs, gd (app d σ) c) ∧ (∀ q_ ∈ keys d, n ≤ q_ ∧ q_ < n')) := by
 refine CQ.body (E := env) env_ok hd rfl rfl (by show _ ≤ _; exact of_decide_eq_true (by kernel_rfl)) ?_
 refine RA.sR hd env_ok <| OA.ps [(2, (.slice none 0 0))] rfl <| OA.nil fun _ => RA.sR hd env_ok <| o1 (some 5) (.slice (some ⟨n, 0, none⟩) 0 0) (n + 1) (n, some (oChk ([] : List Chk))) (by kernel_rfl) <| OA.ps [(3, (.slice (some ⟨n, 0, none⟩) 0 0))] rfl <| OA.nil fun _ => RA.seq hd <| RA.sR hd env_ok <| OA.ps [(4, (.int .i64 0))] rfl <| OA.nil fun _ => ?_
 refine RA.block ?_
 refine RA.loop hd (fun kk_ τ n' D => ∃ (i j : Nat) (xs : List Chk), kk_ = 6 - i ∧ (n + 1) ≤ n' ∧ Has τ [(0, v), (3, (.slice (some ⟨j, 0, none⟩) i 0)), (4, (.int .i64 ((i : Nat) : Int)))] ∧ (∀ q_ ∈ keys D, n ≤ q_ ∧ q_ < n') ∧ n ≤ j ∧ app D σ j = some (oChk xs) ∧ xs.length = i ∧ i ≤ 6 ∧ i ≤ l.length ∧ ∀ c ∈ xs, gd (app D σ) c) 6 ⟨0, n, [], rfl, by omega, ⟨rfl, rfl, rfl, trivial⟩, (by intro q_ hq; simp only [keys, List.cons_append, List.nil_append, List.map_cons, List.map_nil, List.mem_cons, List.not_mem_nil, or_false, false_or] at hq; omega), by omega, get_here, rfl, by omega, by omega, fun c hc => by cases hc⟩ ?_
 rintro kk_ τL nL D1 ⟨i, j, xs, rfl, hnL, hHL, hK, hj0, hjO, hl, hi6, hil, hxO⟩
 rw [Has.eq hHL]
 have hs0 : Sub σ (app D1 σ) := sub_app hd hK
 have hd1 : Dom nL (app D1 σ) := Dom.of hd (by omega) (fun q hq => (hK q hq).2)
 refine RA.restartD (by omega) (fun q hq => (hK q hq).2) ?_
 have hjj : app D1 σ j = some (oChk xs) := hjO
 have hx : ∀ c ∈ xs, gd (app D1 σ) c := hxO
 have hv1 := hv.mono hs0
 have hin : ∀ c ∈ l, okIn (app D1 σ) c := fun c hc => (hin0 c hc).mono hs0
 obtain ⟨σ1, hσ1⟩ : ∃ s, app D1 σ = s := ⟨_, rfl⟩
 rw [hσ1] at hd1 hjj hx hv1 hin ⊢
 have hj := hjj
 have hd0 := hd
 have hd := hd1
 have lhj := hd.lt hj
 refine RA.seq hd <| RA.sR hd env_ok <| OA.ps [(6, (.int .i64 ((i : Nat) : Int))), (7, v)] rfl <| oP 8 (.int .i64 ((l.length : Nat) : Int)) rfl (r_lenP (c := cChk) rfl rfl rfl rfl rfl rfl hv1 rfl) ?_
 by_cases hc1 : ((i : Nat) : Int) < ((l.length : Nat) : Int)
 ·
  obtain ⟨rest, hat⟩ := hv1.get (m := i) (by omega)
  have lathat := hd.lt hat
  have hok := hin _ (getD_mem (d := dChk) (show i < l.length by omega))
  refine oP 9 yT rfl (Eq.trans (r_bin rfl rfl rfl (b_lss rfl)) (Go.Proofs.YtdnkhdkflemkeaaV.dT hc1)) <| OA.ps [(10, yT), (11, (.int .i64 ((i : Nat) : Int)))] rfl ?_
  by_cases hc2 : ((i : Nat) : Int) < 6
  ·
   refine oP 12 yT rfl (Eq.trans (r_bin rfl rfl rfl (b_lss rfl)) (Go.Proofs.YtdnkhdkflemkeaaV.dT hc2)) <| OA.ps [(13, yT)] rfl <| OA.nil fun _ => RA.condT rfl <| RA.skip env_ok ?_
   intro _
   refine RA.seq hd <| RA.block <| RA.region env_ok <| OA.ps [(16, (.slice (some ⟨j, 0, none⟩) i 0)), (17, v), (18, (.int .i64 ((i : Nat) : Int)))] rfl <| oP 19 (.pointer (some ⟨(rk v), i, some 0⟩)) rfl (r_iaP (c := cChk) (m := i) rfl rfl rfl rfl rfl rfl hv1 rfl (by omega) hat rfl) <| oP 20 (.agg ⟨(cChk (l.getD i dChk))⟩) rfl (r_loadA (e := cChk (l.getD i dChk)) rfl rfl rfl rfl hat (mp_getA (by omega)) rfl rfl) ?_
   refine OA.call (dst := (some 21)) (all := [(.agg ⟨(cChk (l.getD i dChk))⟩)]) rfl rfl rfl rfl rfl rfl rfl rfl (CQ.imp (chCut (hd.up (by omega)) (by omega) (l.getD i dChk) hok.1) ?_)
   rintro _ n1 _ ⟨j0n1, j1n1, han1, hbn1, hcn1, hdn1, hen1, rfl, rfl⟩ hn1
   refine OA.app2 ?_
   refine o1 (some 22) (.slice (some ⟨n1, 0, none⟩) 1 0) (n1 + 1) (n1, some ⟨[(cChk (cutD (l.getD i dChk) j0n1 j1n1))], 15, 54, true⟩) (r_bs1 (cs := (cChk (cutD (l.getD i dChk) j0n1 j1n1))) rfl rfl rfl rfl rfl rfl rfl (by decide) (by decide) (by kernel_rfl) (by simp only [List.all_cons, List.all_nil, Bool.and_true, Bool.and_eq_true, cChk]; exact ⟨rfl, rfl, rfl, rfl, rfl, rfl, rfl, rfl, rfl, rfl, rfl, rfl, rfl, ((hok.1.2.2.1.cutR (min (l.getD i dChk).gs.length 18) (by omega))).one, ((hok.1.2.2.2.cutR (min (l.getD i dChk).ds.length 18) (by omega))).one⟩)) <| OA.op (dst := (some 23)) (v := (.slice (some ⟨(n1 + 1), 0, none⟩) (i + 1) 0)) (n1 := (n1 + 2)) (d1 := [((n1 + 1), some (oChk (xs ++ [(cutD (l.getD i dChk) j0n1 j1n1)]))), (j, none)]) (D' := [((n1 + 1), some (oChk (xs ++ [(cutD (l.getD i dChk) j0n1 j1n1)]))), (j, none), (n1, some ⟨[(cChk (cutD (l.getD i dChk) j0n1 j1n1))], 15, 54, true⟩), (j0n1, some (oPrm (((l.getD i dChk).ps.take (min (l.getD i dChk).ps.length 18)).map cutPrm))), (j1n1, some (oCau (((l.getD i dChk).cs.take (min (l.getD i dChk).cs.length 18)).map cutCau)))]) rfl rfl rfl (r_appendR (c := cChk) (l' := (xs ++ [(cutD (l.getD i dChk) j0n1 j1n1)])) rfl rfl rfl rfl rfl rfl rfl rfl rfl rfl (by decide) (gt3 (by omega) hj) get_here (by rw [hl]) (mp_snoc (c := cChk) (x := (cutD (l.getD i dChk) j0n1 j1n1))) (by omega) (of_decide_eq_true (by kernel_rfl)) (by omega)) (by omega) rfl <| OA.ps [(3, (.slice (some ⟨(n1 + 1), 0, none⟩) (i + 1) 0))] rfl <| OA.nil fun _ => RA.region env_ok <| OA.ps [(14, (.int .i64 ((i : Nat) : Int)))] rfl <| oP 15 (.int .i64 (((i + 1) : Nat) : Int)) rfl (r_bin rfl rfl rfl (b_add (i64_eq (by omega)))) <| OA.ps [(4, (.int .i64 (((i + 1) : Nat) : Int)))] rfl <| OA.nil ?_
   refine ⟨6 - (i + 1), by omega, [((n1 + 1), some (oChk (xs ++ [(cutD (l.getD i dChk) j0n1 j1n1)]))), (j, none), (j0n1, some (oPrm (((l.getD i dChk).ps.take (min (l.getD i dChk).ps.length 18)).map cutPrm))), (j1n1, some (oCau (((l.getD i dChk).cs.take (min (l.getD i dChk).cs.length 18)).map cutCau)))] ++ D1, ?_, i + 1, (n1 + 1), xs ++ [cutD (l.getD i dChk) j0n1 j1n1], rfl, by omega, ⟨rfl, rfl, rfl, trivial⟩, keys_two hK (by omega) (by intro q_ hq; simp only [keys, List.cons_append, List.nil_append, List.map_cons, List.map_nil, List.mem_cons, List.not_mem_nil, or_false, false_or] at hq; omega), by omega, ?_, by rw [List.length_append, hl] <;> rfl, by omega, by omega, ?_⟩
   · exact less_app (n1 := nL) (by omega) (fun q hq => (hK q hq).2) (LsO (fA get_here get_here (fA (get_there (by omega) get_here) (get_there (by omega) get_here) (fA (gt2 (by omega) get_here) (gt3 (by omega) get_here) (fA (gt3 (by omega) get_here) (gt4 (by omega) get_here) fan)))))
   · rw [app_append, hσ1]; exact get_here
   · rw [app_append, hσ1]
     have hkp : Keep 54 σ1 (app [((n1 + 1), some (oChk (xs ++ [(cutD (l.getD i dChk) j0n1 j1n1)]))), (j, none), (j0n1, some (oPrm (((l.getD i dChk).ps.take (min (l.getD i dChk).ps.length 18)).map cutPrm))), (j1n1, some (oCau (((l.getD i dChk).cs.take (min (l.getD i dChk).cs.length 18)).map cutCau)))] σ1) := keep_app hd (by intro k_ hk_; simp only [keys, List.cons_append, List.nil_append, List.map_cons, List.map_nil, List.mem_cons, List.not_mem_nil, or_false, false_or] at hk_; exact if hjk : k_ = j then .inr (by rw [hjk]; exact ⟨_, hj, rfl⟩) else .inl (by omega))
     intro c hc
     rcases List.mem_append.1 hc with hc | hc
     · exact (hx c hc).keep hkp
     · rw [List.mem_singleton.1 hc]; exact gd_cut hok hkp (gt2 (by omega) get_here) (gt3 (by omega) get_here)
  ·
   refine oP 12 yF rfl (Eq.trans (r_bin rfl rfl rfl (b_lss rfl)) (Go.Proofs.YtdnkhdkflemkeaaV.dF hc2)) <| OA.ps [(13, yF)] rfl <| OA.nil fun _ => RA.condF rfl ?_
   refine RA.exit env_ok ?_
   have hd := hd0
   intro _
   refine RA.sR hd env_ok <| OA.ps [(24, (.slice (some ⟨j, 0, none⟩) i 0)), (2, (.slice (some ⟨j, 0, none⟩) i 0))] rfl <| OA.nil fun _ => ?_
   refine RA.ret env_ok ?_
   exact ⟨.inr rfl, [(.slice (some ⟨j, 0, none⟩) i 0)], (resL_cons rfl resL_nil), _, Less.refl _ _ _, j, i, xs, rfl, by omega, hjO, hl, by omega, hxO, fun q_ hq => ⟨(hK q_ hq).1, by have := (hK q_ hq).2; omega⟩⟩
 ·
  refine oP 9 yF rfl (Eq.trans (r_bin rfl rfl rfl (b_lss rfl)) (Go.Proofs.YtdnkhdkflemkeaaV.dF hc1)) <| OA.ps [(10, yF)] rfl <| OA.offs 11 2 rfl <| OA.ps [(13, yF)] rfl <| OA.nil fun _ => RA.condF rfl ?_
  refine RA.exit env_ok ?_
  have hd := hd0
  intro _
  refine RA.sR hd env_ok <| OA.ps [(24, (.slice (some ⟨j, 0, none⟩) i 0)), (2, (.slice (some ⟨j, 0, none⟩) i 0))] rfl <| OA.nil fun _ => ?_
  refine RA.ret env_ok ?_
  exact ⟨.inr rfl, [(.slice (some ⟨j, 0, none⟩) i 0)], (resL_cons rfl resL_nil), _, Less.refl _ _ _, j, i, xs, rfl, by omega, hjO, hl, by omega, hxO, fun q_ hq => ⟨(hK q_ hq).1, by have := (hK q_ hq).2; omega⟩⟩
end Go.Proofs.Ytdnkhdkflemkeaa.Vt.Cp
/- Ap4: walks through functions of the program, by the calculus; written by a program of this workplace. -/
namespace Go.Proofs.Ytdnkhdkflemkeaa.Vt.Cp
open Go Go.Proofs Go.Proofs.YtdnkhdkflemkeaaV
set_option maxRecDepth 100000
set_option linter.unusedVariables false
set_option linter.unusedSimpArgs false
set_option maxHeartbeats 8000000
noncomputable abbrev xAp42 (key : ByteArray) (xs : List Chk) : List Value := [(.int .i64 15), (.int .i64 0), (.int .u32 0), (.int .i64 0), (.int .i64 1), (.int .u32 0), (.string (sealF (key.extract 0 (min key.size 40)) xs)), (.int .u32 0), (.int .u32 0), (.int .i64 0), (.int .i64 0), (.slice none 0 0), (.slice none 0 0), (.slice none 0 0), (.slice none 0 0)]
abbrev xAp43 : List Value := [(.int .i64 0), (.int .i64 0), (.int .u32 0), (.int .i64 0), (.int .i64 0), (.int .u32 0), (.string ByteArray.empty), (.int .u32 0), (.int .u32 0), (.int .i64 0), (.int .i64 0), (.slice none 0 0), (.slice none 0 0), (.slice none 0 0), (.slice none 0 0)]
theorem lawSigns {n : Nat} {σ : Store} (hd : Dom n σ) (hn0 : 0 < n) (key : ByteArray) (v : Value) (l : List Chk) (hv : RowP σ 54 15 v (l.map cChk)) (hin0 : ∀ c ∈ l, okIn σ c) : CQ Try.prog noDen 11 [(.string key), v] n σ (fun v n' d => v = .bool true) := by
 have hk : (key.extract 0 (min key.size 40)).size ≤ 40 := by rw [ByteArray.size_extract]; omega
 refine CQ.body (E := env) env_ok hd rfl rfl (by show _ ≤ _; exact of_decide_eq_true (by kernel_rfl)) ?_
 refine RA.sR hd env_ok <| OA.ps [(4, yF)] rfl <| OA.nil fun _ => RA.seq hd <| RA.par (md := [some [], some [], some [], some [], some [], some [], none, some [], some []]) env_ok (hd.up (by omega)) (by kernel_rfl) <| PQ.ps [(9, (.string key)), (10, (.string key)), (11, (.int .i64 ((key.size : Nat) : Int)))] rfl <| pP 12 (.int .i64 (((min key.size 40) : Nat) : Int)) rfl (r_min (a := key.size) (b := 40) rfl rfl rfl) <| pP 13 (.string (key.extract 0 (min key.size 40))) rfl (r_cut (a := 0) (b := (min key.size 40)) rfl rfl (fun _ => rfl) (fun _ => rfl) rfl rfl rfl bound_nat (by omega) (by omega) rfl) <| PQ.ps [(14, v)] rfl ?_
 refine PQ.call (dst := (some 15)) (all := [v]) rfl rfl rfl rfl rfl rfl rfl rfl _ (sA (V := []) (by kernel_rfl) (by kernel_rfl)) (CQ.imp (CQ.keys (lCutAll (hd.up (by omega)) hn0 v l hv hin0)) ?_)
 rintro _ n1 ddn1 ⟨hkn1, ⟨j, N, xs, rfl, hjan1, hjbn1, hl, hN, hxbn1, hkbn1⟩⟩
 have hn1 := hkn1.1
 refine ⟨hn1, fun x_ hx_ => wr_new (hkbn1 x_ hx_).1 (hkbn1 x_ hx_).2, ?_⟩
 refine PQ.ps [(5, (.string (key.extract 0 (min key.size 40)))), (6, (.slice (some ⟨j, 0, none⟩) N 0))] rfl <| PQ.done (d := ddn1) (by simp [selD, allB, List.getD]) fun _ => ?_
 refine RA.restart (b' := n1) ?_
 rw [List.append_nil]
 have hs0 : Sub σ (app ddn1 σ) := sub_app hd hkbn1
 have hd1 : Dom n1 (app ddn1 σ) := Dom.of hd (by omega) (fun q hq => (hkbn1 q hq).2)
 have hjj := hjbn1
 have hx := hxbn1
 obtain ⟨σ, hσ1⟩ : ∃ s, app ddn1 σ = s := ⟨_, rfl⟩
 rw [hσ1] at hd1 hjj hx ⊢
 have hj := hjj
 have hd0 := hd
 have hd := hd1
 have lhj := hd.lt hj
 refine RA.sR hd env_ok <| OA.ps [(16, (.string (key.extract 0 (min key.size 40)))), (17, (.slice (some ⟨j, 0, none⟩) N 0))] rfl ?_
 refine OA.call (dst := (some 18)) (all := [(.string (key.extract 0 (min key.size 40))), (.slice (some ⟨j, 0, none⟩) N 0)]) rfl rfl rfl rfl rfl rfl rfl rfl (CQ.imp (sSign (hd.up (by omega)) (key.extract 0 (min key.size 40)) hk j N xs hl hN (gd_keepL hx Keep.refl) hj) ?_)
 rintro _ n2 _ ⟨gn2, hgan2, hgbn2, rfl, rfl⟩ hn2
 refine OA.app1 ?_
 refine OA.ps [(7, (.slice (some ⟨gn2, 0, none⟩) (N + 1) 0))] rfl <| OA.nil fun _ => RA.seq hd <| RA.sR hd env_ok <| oC 19 (hd.of (by omega) (kb1 (by omega))) rfl rfl kAwake fun n3 hn3 => OA.ps [(20, yF), (21, yF), (22, (.slice (some ⟨gn2, 0, none⟩) (N + 1) 0)), (23, (.int .i64 (((N + 1) : Nat) : Int))), (24, (.slice (some ⟨j, 0, none⟩) N 0)), (25, (.int .i64 ((N : Nat) : Int)))] rfl <| oP 26 (.int .i64 (((N + 1) : Nat) : Int)) rfl (r_bin rfl rfl rfl (b_add (i64_eq (by omega)))) <| oP 27 yF rfl (r_bin rfl rfl rfl (b_neq (by simp))) <| OA.ps [(28, yF), (29, yF), (30, (.slice (some ⟨gn2, 0, none⟩) (N + 1) 0))] rfl <| oP 31 (.slice (some ⟨gn2, 1, none⟩) N 0) rfl (r_cutG (a := 1) (b := (N + 1)) rfl rfl (fun _ => rfl) (fun _ => rfl) rfl rfl rfl rfl rfl get_here rfl (by omega) (by rw [List.length_map, show (fstC (sealF (key.extract 0 (min key.size 40)) xs) :: xs).length = N + 1 from by rw [List.length_cons, hl]]; omega) (by omega) (by omega)) <| OA.ps [(32, (.slice (some ⟨j, 0, none⟩) N 0))] rfl ?_
 refine oC 33 (v := yT) (hd.of (by omega) (kb1 (by omega))) rfl rfl (rSameAll gn2 1 (N + 1) _ (by rw [List.length_cons, hl]) j N xs hl (by omega) (by omega) rfl (gd_keepL hx (keep_app hd (by intro k_ hk_; simp only [keys, List.cons_append, List.nil_append, List.map_cons, List.map_nil, List.mem_cons, List.not_mem_nil, or_false, false_or] at hk_; exact .inl (by omega)))) get_here (get_there (by omega) hj)) fun n4 hn4 => OA.ps [(34, yF), (35, yF)] rfl <| OA.nil fun _ => RA.rb [(0, (.string key)), (1, v), (4, yF), (5, (.string (key.extract 0 (min key.size 40)))), (6, (.slice (some ⟨j, 0, none⟩) N 0)), (7, (.slice (some ⟨gn2, 0, none⟩) (N + 1) 0)), (35, yF)] rfl (fun τr5 => ?_)
 refine RA.condF rfl <| RA.skip env_ok ?_
 intro _
 refine RA.sR hd env_ok <| OA.ps [(36, (.slice (some ⟨gn2, 0, none⟩) (N + 1) 0))] rfl <| oP 37 (Pt gn2 0 0) rfl (r_iaS (l := 0) rfl rfl rfl rfl rfl rfl (by omega) (by omega) get_here rfl (by omega)) <| oP 38 (.agg ⟨(xAp42 key xs)⟩) rfl (r_loadR (c := cChk) dChk rfl rfl rfl rfl get_here (show 0 < (fstC (sealF (key.extract 0 (min key.size 40)) xs) :: xs).length from by rw [List.length_cons]; omega) rfl) <| o1 (some 8) (Pt n4 0 0) (n4 + 1) (n4, some ⟨[xAp43], 15, 54, true⟩) rfl <| o1 none yU (n4 + 1) (n4, some ⟨[(xAp42 key xs)], 15, 54, true⟩) (rS get_here) <| OA.nil fun _ => RA.weaken hd (LsO (fA get_here get_here (fA (get_there (by omega) get_here) (gt2 (by omega) get_here) fan))) <| RA.seq hd <| RA.par (md := [some [], some [n4], some [], some [], some [], some [n4], some [], some [], some [], some [], some [n4], some [], some [], some [], some [], some [n4], some [], some [], some [], some [], some [n4], some [], some [], none, some [], some [], some []]) env_ok (hd.of (by omega) (kb2 (by omega))) (by kernel_rfl) <| PQ.ps [(39, (Pt n4 0 0))] rfl ?_
 refine pQl 40 (.int .i64 15) get_here <| pP 41 yT rfl (r_bin rfl rfl rfl (b_eql (by simp))) <| PQ.ps [(42, yT), (43, (Pt n4 0 1))] rfl <| pQl 44 (.int .i64 0) get_here <| pP 45 yT rfl (r_bin rfl rfl rfl (b_eql (by simp))) <| PQ.ps [(46, yT), (47, yT), (48, (Pt n4 0 3))] rfl <| pQl 49 (.int .i64 0) get_here <| pP 50 yT rfl (r_bin rfl rfl rfl (b_eql (by simp))) <| PQ.ps [(51, yT), (52, yT), (53, (Pt n4 0 4))] rfl <| pQl 54 (.int .i64 1) get_here <| pP 55 yT rfl (r_bin rfl rfl rfl (b_eql (by simp))) ?_
 refine PQ.ps [(56, yT), (57, yT), (58, (Pt n4 0 6))] rfl <| pQl 59 (.string (sealF (key.extract 0 (min key.size 40)) xs)) get_here <| PQ.ps [(60, (.string (key.extract 0 (min key.size 40)))), (61, (.slice (some ⟨j, 0, none⟩) N 0))] rfl <| pA 62 (v := (.string (sealF (key.extract 0 (min key.size 40)) xs))) (V := []) (hd.of (by omega) (kb2 (by omega))) rfl rfl (by kernel_rfl) (by kernel_rfl) (lSeal (key.extract 0 (min key.size 40)) hk j 0 N N xs (by rw [hl]) (by omega) (gd_keepL hx (keep_app hd (by intro k_ hk_; simp only [keys, List.cons_append, List.nil_append, List.map_cons, List.map_nil, List.mem_cons, List.not_mem_nil, or_false, false_or] at hk_; exact .inl (by omega)))) (by omega) (gt2 (by omega) hj)) fun n6 hn6 => pP 63 yT rfl (Eq.trans (r_eqlS rfl rfl rfl) (by rw [decide_eq_true rfl] <;> rfl)) <| PQ.ps [(64, yT), (4, yT)] rfl <| PQ.done (d := []) (by kernel_rfl) fun _ => RA.rb [(0, (.string key)), (1, v), (4, yT), (5, (.string (key.extract 0 (min key.size 40)))), (6, (.slice (some ⟨j, 0, none⟩) N 0)), (7, (.slice (some ⟨gn2, 0, none⟩) (N + 1) 0)), (8, (Pt n4 0 0)), (35, yF)] rfl (fun τr7 => ?_)
 refine RA.ret env_ok ?_
 intro D'_
 exact ⟨.inr rfl, [(.bool true)], (resL_cons rfl resL_nil), D'_, Less.refl _ _ _, rfl⟩
end Go.Proofs.Ytdnkhdkflemkeaa.Vt.Cp
/- The pure part of AuthSigns. -/
namespace Go.Proofs.Ytdnkhdkflemkeaa.Vt
open Go Go.Proofs Go.Proofs.YtdnkhdkflemkeaaV Go.Proofs.Ytdnkhdkflemkeaa.Vt.Cp
set_option linter.unusedVariables false
theorem wf_word {b : Int} (h : (Lit.int .u32 b).wf = true) : ∃ x : BitVec 32, b = ((x.toNat : Nat) : Int) := by
  have h2 : 0 ≤ b ∧ b < 4294967296 := by
    simp [Lit.wf, IntKind.min, IntKind.max, IntKind.signed, IntKind.bits] at h
    omega
  exact ⟨BitVec.ofNat 32 b.toNat, by rw [BitVec.toNat_ofNat]; omega⟩
theorem wf_i64 {b : Int} (h : (Lit.int .i64 b).wf = true) : -9223372036854775808 ≤ b ∧ b ≤ 9223372036854775807 := by
  simp [Lit.wf, IntKind.min, IntKind.max, IntKind.signed, IntKind.bits] at h
  omega
theorem rowsPrm {σ : Store} : ∀ {es : List (List Value)}, (∀ x ∈ es, g96.G σ x) → ∃ l : List Prm, es = l.map cPrm
  | [], _ => ⟨[], rfl⟩
  | x :: es, h => by
    obtain ⟨l, rfl⟩ := rowsPrm (es := es) (fun y hy => h y (List.mem_cons_of_mem _ hy))
    obtain ⟨_, _, rfl, ⟨a0, rfl, w0⟩, _, _, rfl, ⟨a1, rfl, w1⟩, rfl⟩ := h x (List.mem_cons_self ..)
    exact ⟨⟨a0, a1⟩ :: l, rfl⟩
theorem rowsCau {σ : Store} : ∀ {es : List (List Value)}, (∀ x ∈ es, g98.G σ x) → ∃ l : List Cau, es = l.map cCau
  | [], _ => ⟨[], rfl⟩
  | x :: es, h => by
    obtain ⟨l, rfl⟩ := rowsCau (es := es) (fun y hy => h y (List.mem_cons_of_mem _ hy))
    obtain ⟨_, _, rfl, ⟨a0, rfl, w0⟩, _, _, rfl, ⟨a1, rfl, w1⟩, rfl⟩ := h x (List.mem_cons_self ..)
    exact ⟨⟨a0, a1⟩ :: l, rfl⟩
theorem rowsDp {σ : Store} : ∀ {es : List (List Value)}, (∀ x ∈ es, g32.G σ x) → ∃ l : List Dp, es = l.map cDp
  | [], _ => ⟨[], rfl⟩
  | x :: es, h => by
    obtain ⟨l, rfl⟩ := rowsDp (es := es) (fun y hy => h y (List.mem_cons_of_mem _ hy))
    obtain ⟨a0, rfl, w0⟩ := h x (List.mem_cons_self ..)
    obtain ⟨b0, rfl⟩ := wf_word w0
    exact ⟨⟨b0⟩ :: l, rfl⟩
theorem rowsGp2 {σ : Store} : ∀ {es : List (List Value)}, (∀ x ∈ es, g101.G σ x) → ∃ l : List Gp, es = l.map cGp ∧ ∀ g ∈ l, g.lo < 9223372036854775808
  | [], _ => ⟨[], rfl, fun _ h => by cases h⟩
  | x :: es, h => by
    obtain ⟨l, rfl, hl⟩ := rowsGp2 (es := es) (fun y hy => h y (List.mem_cons_of_mem _ hy))
    obtain ⟨_, _, rfl, ⟨a0, rfl, w0⟩, _, _, rfl, ⟨a1, rfl, w1⟩, rfl⟩ := h x (List.mem_cons_self ..)
    refine ⟨⟨a0, a1⟩ :: l, rfl, fun g hg => ?_⟩
    rcases List.mem_cons.1 hg with rfl | hg
    · have := wf_i64 w0; show a0 < 9223372036854775808; omega
    · exact hl g hg
theorem rowsChk {σ : Store} : ∀ {es : List (List Value)}, (∀ x ∈ es, g54.G σ x) → ∃ l : List Chk, es = l.map cChk ∧ ∀ c ∈ l, okIn σ c
  | [], _ => ⟨[], rfl, fun _ h => by cases h⟩
  | x :: es, h => by
    obtain ⟨l, rfl, hl⟩ := rowsChk (es := es) (fun y hy => h y (List.mem_cons_of_mem _ hy))
    obtain ⟨_, _, rfl, ⟨a0, rfl, w0⟩, _, _, rfl, ⟨a1, rfl, w1⟩, _, _, rfl, ⟨a2, rfl, w2⟩, _, _, rfl, ⟨a3, rfl, w3⟩, _, _, rfl, ⟨a4, rfl, w4⟩, _, _, rfl, ⟨a5, rfl, w5⟩, _, _, rfl, ⟨a6, rfl, w6⟩, _, _, rfl, ⟨a7, rfl, w7⟩, _, _, rfl, ⟨a8, rfl, w8⟩, _, _, rfl, ⟨a9, rfl, w9⟩, _, _, rfl, ⟨a10, rfl, w10⟩, _, _, rfl, ⟨v11, e11, rfl, r11, x11⟩, _, _, rfl, ⟨v12, e12, rfl, r12, x12⟩, _, _, rfl, ⟨v13, e13, rfl, r13, x13⟩, _, _, rfl, ⟨v14, e14, rfl, r14, x14⟩, rfl⟩ := h x (List.mem_cons_self ..)
    obtain ⟨b2, rfl⟩ := wf_word w2
    obtain ⟨b5, rfl⟩ := wf_word w5
    obtain ⟨b7, rfl⟩ := wf_word w7
    obtain ⟨b8, rfl⟩ := wf_word w8
    obtain ⟨l11, rfl⟩ := rowsPrm x11
    obtain ⟨l12, rfl⟩ := rowsCau x12
    obtain ⟨l13, rfl, hgr⟩ := rowsGp2 x13
    obtain ⟨l14, rfl⟩ := rowsDp x14
    refine ⟨⟨a0, a1, b2, a3, a4, b5, a6, b7, b8, a9, a10, v11, v12, v13, v14, l11, l12, l13, l14⟩ :: l, rfl, fun c hc => ?_⟩
    rcases List.mem_cons.1 hc with rfl | hc
    · exact ⟨⟨r11.P, r12.P, r13.P, r14.P⟩, by have := wf_i64 w1; show a1 < 9223372036854775808; omega, hgr⟩
    · exact hl c hc
theorem runAuthSigns (n : Nat) (σ : Store) (hd : Dom n σ) (hn0 : 0 < n) (x0 x1 : Value) (h0 : g9.G σ [x0]) (h1 : g45.G σ [x1]) : CQ Try.prog noDen 11 [x0, x1] n σ (fun v _ _ => v = .bool true) := by
  obtain ⟨b0, q0, w0⟩ := h0
  cases q0
  obtain ⟨v, e1, q1, r1, w1⟩ := h1
  cases q1
  obtain ⟨l, rfl, hl⟩ := rowsChk w1
  exact lawSigns hd hn0 b0 _ l r1.P hl
end Go.Proofs.Ytdnkhdkflemkeaa.Vt
