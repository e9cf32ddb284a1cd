/- Dg6: walks through functions of the program, by the calculus; written by a program of this workplace. -/
import Derived.Test.YtdnkhdkflemkeaaDg4
import Derived.Test.YtdnkhdkflemkeaaVm5
namespace Go.Proofs.Ytdnkhdkflemkeaa.Vt
open Go Go.Proofs Go.Proofs.YtdnkhdkflemkeaaV
set_option maxRecDepth 100000
set_option linter.unusedVariables false
set_option linter.unusedSimpArgs false
def putL (m : Nat) : Nat → List UInt8
  | 0 => []
  | k + 1 => putL (m / 256) k ++ [UInt8.ofNat (m % 256)]
theorem putL_len : ∀ (k m : Nat), (putL m k).length = k
  | 0, _ => rfl
  | k + 1, m => by simp [putL, putL_len k]
theorem ofNat_mod (m : Nat) : UInt8.ofNat (m % 256) = UInt8.ofNat m := by
  apply UInt8.toNat_inj.1
  simp [UInt8.toNat_ofNat']
theorem putL_4 (m : Nat) : putL m 4 = be4 (BitVec.ofNat 32 m) := by
  have h0 : UInt8.ofNat (m % 256) = UInt8.ofNat (BitVec.ofNat 32 m).toNat := by
    apply UInt8.toNat_inj.1
    rw [BitVec.toNat_ofNat]
    simp only [UInt8.toNat_ofNat']
    omega
  have h1 : UInt8.ofNat (m / 256 % 256) = UInt8.ofNat (BitVec.ofNat 32 m >>> 8).toNat := by
    apply UInt8.toNat_inj.1
    rw [BitVec.toNat_ushiftRight, Nat.shiftRight_eq_div_pow, BitVec.toNat_ofNat]
    simp only [UInt8.toNat_ofNat']
    omega
  have h2 : UInt8.ofNat (m / 65536 % 256) = UInt8.ofNat (BitVec.ofNat 32 m >>> 16).toNat := by
    apply UInt8.toNat_inj.1
    rw [BitVec.toNat_ushiftRight, Nat.shiftRight_eq_div_pow, BitVec.toNat_ofNat]
    simp only [UInt8.toNat_ofNat']
    omega
  have h3 : UInt8.ofNat (m / 16777216 % 256) = UInt8.ofNat (BitVec.ofNat 32 m >>> 24).toNat := by
    apply UInt8.toNat_inj.1
    rw [BitVec.toNat_ushiftRight, Nat.shiftRight_eq_div_pow, BitVec.toNat_ofNat]
    simp only [UInt8.toNat_ofNat']
    omega
  simp only [putL, be4, Nat.div_div_eq_div_mul, Nat.reduceMul]
  rw [h0, h1, h2, h3]
  rfl
theorem putL_8 (m : Nat) : putL m 8 = be8 m := by
  have : putL m 8 = putL (m / 4294967296) 4 ++ putL m 4 := by
    simp only [putL, List.nil_append, List.append_assoc, List.cons_append, Nat.div_div_eq_div_mul]
  rw [this, putL_4, putL_4]; rfl
theorem s41z {σ : Store} (m : Nat)   : PS Try.prog noDen 41 [(.int .u64 ((m : Nat) : Int)), (.int .i64 0)] σ (.string (bstr (putL m 0))) := by
 refine PS.body (E := env) env_ok rfl rfl (by show _ ≤ _; exact of_decide_eq_true (by kernel_rfl)) (fun n hd => ?_)
 refine RA.seq hd ?_
 refine RA.region env_ok ?_
 refine OA.p (some 4) (.string (ByteArray.mk #[])) rfl rfl rfl rfl ?_
 refine OA.nil ?_
 intro _
 refine RA.seq hd ?_
 refine RA.seq hd ?_
 refine RA.region env_ok ?_
 refine OA.p (some 5) (.int .i64 0) rfl rfl rfl rfl ?_
 refine OA.p (some 6) (.bool true) rfl rfl rfl (r_bin rfl rfl rfl (b_leq rfl)) ?_
 refine OA.nil ?_
 intro _
 refine RA.condT rfl ?_
 refine RA.seq hd ?_
 refine RA.region env_ok ?_
 refine OA.p (some 4) (.string (ByteArray.mk #[])) rfl rfl rfl rfl ?_
 refine OA.nil ?_
 intro _
 refine RA.ret env_ok ?_
 refine ⟨.inr rfl, [(.string (ByteArray.mk #[]))], (resL_cons rfl resL_nil), rfl, (fun i hi => by cases hi)⟩

theorem s41 : ∀ (k m : Nat) (hm : m < 18446744073709551616) (hk : k ≤ 8) {σ : Store}, PS Try.prog noDen 41 [(.int .u64 ((m : Nat) : Int)), (.int .i64 ((k : Nat) : Int))] σ (.string (bstr (putL m k))) := by
  intro k
  induction k with
  | zero => intro m _ _ σ; exact s41z m
  | succ k ih =>
    intro m hm hk σ
    refine PS.body (E := env) env_ok rfl rfl (by show _ ≤ _; exact of_decide_eq_true (by kernel_rfl)) (fun n hd => ?_)
    refine RA.seq hd ?_
    refine RA.region env_ok ?_
    refine OA.p (some 4) (.string (ByteArray.mk #[])) rfl rfl rfl rfl ?_
    refine OA.nil ?_
    intro _
    refine RA.seq hd ?_
    refine RA.seq hd ?_
    refine RA.region env_ok ?_
    refine OA.p (some 5) (.int .i64 (((k + 1) : Nat) : Int)) rfl rfl rfl rfl ?_
    have hc1 : ¬ ((((k + 1) : Nat) : Int) ≤ 0) := fun hdd => by exfalso; omega
    refine OA.p (some 6) (.bool false) rfl rfl rfl (Eq.trans (r_bin rfl rfl rfl (b_leq rfl)) (dF hc1)) ?_
    refine OA.nil ?_
    intro _
    refine RA.condF rfl ?_
    refine RA.skip env_ok ?_
    intro _
    refine RA.seq hd ?_
    refine RA.par (md := [some [], some [], some [], some [], some [], some [], some [], some [], some [], none, some [], some []]) env_ok (hd.up (by omega)) (by kernel_rfl) ?_
    refine PQ.pure (dst := (some 7)) (v := (.int .u64 ((m : Nat) : Int))) rfl rfl rfl noStore (none_ok _ _) rfl ?_
    refine PQ.pure (dst := (some 8)) (v := (.int .u64 (((m / 256) : Nat) : Int))) rfl rfl rfl noStore (none_ok _ _) (r_bin rfl rfl rfl (b_quoN (a := m) (c := 256) (by decide) (u64_eq (by omega)))) ?_
    refine PQ.pure (dst := (some 9)) (v := (.int .i64 (((k + 1) : Nat) : Int))) rfl rfl rfl noStore (none_ok _ _) rfl ?_
    refine PQ.pure (dst := (some 10)) (v := (.int .i64 ((((k + 1) - 1) : Nat) : Int))) rfl rfl rfl noStore (none_ok _ _) (r_bin rfl rfl rfl (b_sub (i64_eq (by omega)))) ?_
    refine PQ.callP (dst := (some 11)) (all := [(.int .u64 (((m / 256) : Nat) : Int)), (.int .i64 ((((k + 1) - 1) : Nat) : Int))]) (v := (.string (bstr (putL (m / 256) k)))) noStore (dom_none _) rfl rfl rfl rfl rfl rfl rfl rfl (none_ok _ _) (ih (m / 256) (by omega) (by omega)) ?_
    intro n1 hn1
    refine PQ.pure (dst := (some 12)) (v := (.int .u64 ((m : Nat) : Int))) rfl rfl rfl noStore (none_ok _ _) rfl ?_
    refine PQ.pure (dst := (some 13)) (v := (.int .u64 (((m % 256) : Nat) : Int))) rfl rfl rfl noStore (none_ok _ _) (r_bin rfl rfl rfl (b_remN (a := m) (c := 256) (by decide))) ?_
    refine PQ.pure (dst := (some 14)) (v := (.int .u8 (((UInt8.ofNat (m % 256)).toNat : Nat) : Int))) rfl rfl rfl noStore (none_ok _ _) (r_cvt rfl rfl rfl rfl rfl ⟨_, rfl⟩ (wrap_u8n _)) ?_
    refine PQ.op (dst := (some 15)) (v := (.slice (some ⟨n1, 0, none⟩) 1 0)) (n1 := (n1 + 1)) (d1 := [(n1, some ⟨(bc [(UInt8.ofNat (m % 256))]), 1, 5, true⟩)]) rfl rfl rfl noStore (none_ok _ _) (by kernel_rfl) (by omega) (kp1 (wr_new (by omega) (by omega))) ?_
    refine PQ.pure (dst := (some 16)) (v := (.string (bstr (([(UInt8.ofNat (m % 256))].drop 0).take 1)))) rfl rfl rfl _ (seen_any (V := [(n1, some ⟨(bc [(UInt8.ofNat (m % 256))]), 1, 5, true⟩)]) (D := []) (by kernel_rfl)) (r_b2s rfl rfl rfl rfl rfl rfl rfl rfl get_here (by rw [show ([(UInt8.ofNat (m % 256))] : List UInt8).length = 1 from rfl]; omega)) ?_
    refine PQ.pure (dst := (some 17)) (v := (.string ((bstr (putL (m / 256) k)) ++ (bstr (([(UInt8.ofNat (m % 256))].drop 0).take 1))))) rfl rfl rfl noStore (none_ok _ _) (r_cat rfl rfl rfl (by (try simp only [ByteArray.size_append, bstr_size, size_lit, List.size_toArray, List.length_cons, List.length_nil, List.length_take, List.length_drop, List.length_replicate, putL_len]); try omega)) ?_
    refine PQ.pure (dst := (some 4)) (v := (.string ((bstr (putL (m / 256) k)) ++ (bstr (([(UInt8.ofNat (m % 256))].drop 0).take 1))))) rfl rfl rfl noStore (none_ok _ _) rfl ?_
    refine PQ.done (d := [(n1, some ⟨(bc [(UInt8.ofNat (m % 256))]), 1, 5, true⟩)]) (by kernel_rfl) ?_
    intro _
    refine RA.ret env_ok ?_
    refine ⟨.inr rfl, [(.string ((bstr (putL (m / 256) k)) ++ (bstr (([(UInt8.ofNat (m % 256))].drop 0).take 1))))], (resL_cons rfl resL_nil), (by rw [one, bstr_app]; rfl), (kc1 (by omega))⟩
   
theorem s73 {σ : Store} (s : ByteArray) (k : Nat) (hk : k ≤ s.size)   : PS Try.prog noDen 73 [(.agg ⟨[(.string s), (.int .i64 0)]⟩), (.int .i64 ((k : Nat) : Int))] σ (.tuple #[.agg ⟨[.string (s.extract k s.size), .int .i64 0]⟩, .string (s.extract 0 k)]) := by
 refine PS.body (E := env) env_ok rfl rfl (by show _ ≤ _; exact of_decide_eq_true (by kernel_rfl)) (fun n hd => ?_)
 refine RA.seq hd ?_
 refine RA.region env_ok ?_
 refine OA.op1 (dst := (some 2)) (v := (.pointer (some ⟨n, 0, some 0⟩))) (n1 := (n + 1)) (w := (n, some ⟨[[(.string s), (.int .i64 0)]], 2, 85, true⟩)) rfl rfl rfl rfl (by omega) ?_
 refine OA.op1 (dst := (some 4)) (v := (.pointer (some ⟨(n + 1), 0, some 0⟩))) (n1 := (n + 2)) (w := ((n + 1), some ⟨[[(.string ByteArray.empty), (.int .i64 0)]], 2, 85, true⟩)) rfl rfl rfl rfl (by omega) ?_
 refine OA.p (some 5) (.string (ByteArray.mk #[])) rfl rfl rfl rfl ?_
 refine OA.nil ?_
 intro _
 refine RA.seq hd ?_
 refine RA.seq hd ?_
 refine RA.region env_ok ?_
 refine OA.p (some 6) (.pointer (some ⟨n, 0, some 1⟩)) rfl rfl rfl rfl ?_
 refine OA.p (some 7) (.int .i64 0) rfl rfl rfl (r_load1 rfl rfl rfl rfl rfl (get_there (by omega) get_here) rfl rfl) ?_
 refine OA.p (some 8) (.bool false) rfl rfl rfl (r_bin rfl rfl rfl (b_neq rfl)) ?_
 refine OA.nil ?_
 intro _
 refine RA.condF rfl ?_
 refine RA.skip env_ok ?_
 intro _
 refine RA.seq hd ?_
 refine RA.seq hd ?_
 refine RA.region env_ok ?_
 refine OA.p (some 10) (.int .i64 ((k : Nat) : Int)) rfl rfl rfl rfl ?_
 have hc1 : ¬ (((k : Nat) : Int) < 0) := fun hdd => by exfalso; omega
 refine OA.p (some 11) (.bool false) rfl rfl rfl (Eq.trans (r_bin rfl rfl rfl (b_lss rfl)) (dF hc1)) ?_
 refine OA.p (some 12) (.bool false) rfl rfl rfl rfl ?_
 refine OA.p (some 13) (.int .i64 ((k : Nat) : Int)) rfl rfl rfl rfl ?_
 refine OA.p (some 14) (.pointer (some ⟨n, 0, some 0⟩)) rfl rfl rfl rfl ?_
 refine OA.p (some 15) (.string s) rfl rfl rfl (r_load1 rfl rfl rfl rfl rfl (get_there (by omega) get_here) rfl rfl) ?_
 refine OA.p (some 16) (.int .i64 ((s.size : Nat) : Int)) rfl rfl rfl rfl ?_
 have hc2 : ¬ (((s.size : Nat) : Int) < ((k : Nat) : Int)) := fun hdd => by exfalso; omega
 refine OA.p (some 17) (.bool false) rfl rfl rfl (Eq.trans (r_bin rfl rfl rfl (b_gtr rfl)) (dF hc2)) ?_
 refine OA.p (some 18) (.bool false) rfl rfl rfl rfl ?_
 refine OA.nil ?_
 intro _
 refine RA.condF rfl ?_
 refine RA.skip env_ok ?_
 intro _
 refine RA.seq hd ?_
 refine RA.par (md := [some [], some [n], some [], some [], some [], some [], some [n], some [], some [], none, some []]) env_ok (hd.of (by omega) (kb2 (by omega))) (by kernel_rfl) ?_
 refine PQ.pure (dst := (some 21)) (v := (.pointer (some ⟨n, 0, some 0⟩))) rfl rfl rfl noStore (none_ok _ _) rfl ?_
 refine PQ.pure (dst := (some 22)) (v := (.string s)) rfl rfl rfl (app [(n, some ⟨[[(.string s), (.int .i64 0)]], 2, 85, true⟩)] noStore) (seen_one (V := []) (D := [((n + 1), some ⟨[[(.string ByteArray.empty), (.int .i64 0)]], 2, 85, true⟩), (n, some ⟨[[(.string s), (.int .i64 0)]], 2, 85, true⟩)]) (by kernel_rfl) (get_there (by omega) get_here)) (r_load1 rfl rfl rfl rfl rfl get_here rfl rfl) ?_
 refine PQ.pure (dst := (some 23)) (v := (.int .i64 ((k : Nat) : Int))) rfl rfl rfl noStore (none_ok _ _) rfl ?_
 refine PQ.pure (dst := (some 24)) (v := (.string (s.extract k s.size))) rfl rfl rfl noStore (none_ok _ _) (r_cut (a := k) (b := s.size) rfl rfl (fun _ => rfl) (fun _ => rfl) rfl rfl bound_nat rfl (by omega) (by omega) rfl) ?_
 refine PQ.pure (dst := (some 25)) (v := (.agg ⟨[(.string (s.extract k s.size)), (.int .i64 0)]⟩)) rfl rfl rfl noStore (none_ok _ _) (by kernel_rfl) ?_
 refine PQ.pure (dst := (some 26)) (v := (.pointer (some ⟨n, 0, some 0⟩))) rfl rfl rfl noStore (none_ok _ _) rfl ?_
 refine PQ.pure (dst := (some 27)) (v := (.string s)) rfl rfl rfl (app [(n, some ⟨[[(.string s), (.int .i64 0)]], 2, 85, true⟩)] noStore) (seen_one (V := []) (D := [((n + 1), some ⟨[[(.string ByteArray.empty), (.int .i64 0)]], 2, 85, true⟩), (n, some ⟨[[(.string s), (.int .i64 0)]], 2, 85, true⟩)]) (by kernel_rfl) (get_there (by omega) get_here)) (r_load1 rfl rfl rfl rfl rfl get_here rfl rfl) ?_
 refine PQ.pure (dst := (some 28)) (v := (.int .i64 ((k : Nat) : Int))) rfl rfl rfl noStore (none_ok _ _) rfl ?_
 refine PQ.pure (dst := (some 29)) (v := (.string (s.extract 0 k))) rfl rfl rfl noStore (none_ok _ _) (r_cut (a := 0) (b := k) rfl rfl (fun _ => rfl) (fun _ => rfl) rfl rfl rfl bound_nat (by omega) (by omega) rfl) ?_
 refine PQ.op (dst := none) (v := (.tuple #[])) (n1 := (n + 2)) (d1 := [((n + 1), some ⟨[[(.string (s.extract k s.size)), (.int .i64 0)]], 2, 85, true⟩)]) rfl rfl rfl _ (seen_any (V := []) (D := [((n + 1), some ⟨[[(.string ByteArray.empty), (.int .i64 0)]], 2, 85, true⟩), (n, some ⟨[[(.string s), (.int .i64 0)]], 2, 85, true⟩)]) (by kernel_rfl)) (r_store rfl rfl rfl rfl rfl rfl rfl get_here rfl rfl (Nat.le_of_ble_eq_true rfl) rfl) (by omega) (kp1 (wr_old [5, 6, 7, 8] (by kernel_rfl) (by omega) (by omega) (fac (lo0 rfl) (fac (lo1 rfl (by omega)) (fac (lo0 rfl) (fac (lo0 rfl) fan)))))) ?_
 refine PQ.pure (dst := (some 5)) (v := (.string (s.extract 0 k))) rfl rfl rfl noStore (none_ok _ _) rfl ?_
 refine PQ.done (d := [((n + 1), some ⟨[[(.string (s.extract k s.size)), (.int .i64 0)]], 2, 85, true⟩)]) (by kernel_rfl) ?_
 intro _
 refine RA.rebase [(0, (.agg ⟨[(.string s), (.int .i64 0)]⟩)), (1, (.int .i64 ((k : Nat) : Int))), (2, (.pointer (some ⟨n, 0, some 0⟩))), (4, (.pointer (some ⟨(n + 1), 0, some 0⟩))), (5, (.string (s.extract 0 k))), (8, (.bool false)), (18, (.bool false))] ⟨rfl, rfl, rfl, rfl, rfl, rfl, rfl, trivial⟩ (fun τr1 => ?_)
 refine RA.ret env_ok ?_
 refine ⟨.inr rfl, [(.agg ⟨[(.string (s.extract k s.size)), (.int .i64 0)]⟩), (.string (s.extract 0 k))], (resL_cons (res_cellA rfl rfl rfl get_here rfl rfl rfl) (resL_cons rfl resL_nil)), rfl, (kc3 (by omega))⟩

theorem s58 {σ : Store} (s : ByteArray) (k : Nat) (hk : k ≤ s.size) (hk8 : k ≤ 8)   : PS Try.prog noDen 58 [(.agg ⟨[(.string s), (.int .i64 0)]⟩), (.int .i64 ((k : Nat) : Int))] σ (.tuple #[.agg ⟨[.string (s.extract k s.size), .int .i64 0]⟩, .int .u64 ((beN ((L s).take k) : Nat) : Int)]) := by
 refine PS.body (E := env) env_ok rfl rfl (by show _ ≤ _; exact of_decide_eq_true (by kernel_rfl)) (fun n hd => ?_)
 refine RA.seq hd ?_
 refine RA.region env_ok ?_
 refine OA.op1 (dst := (some 2)) (v := (.pointer (some ⟨n, 0, some 0⟩))) (n1 := (n + 1)) (w := (n, some ⟨[[(.string s), (.int .i64 0)]], 2, 85, true⟩)) rfl rfl rfl rfl (by omega) ?_
 refine OA.op1 (dst := (some 4)) (v := (.pointer (some ⟨(n + 1), 0, some 0⟩))) (n1 := (n + 2)) (w := ((n + 1), some ⟨[[(.string ByteArray.empty), (.int .i64 0)]], 2, 85, true⟩)) rfl rfl rfl rfl (by omega) ?_
 refine OA.p (some 5) (.int .u64 0) rfl rfl rfl rfl ?_
 refine OA.nil ?_
 intro _
 refine RA.seq hd ?_
 refine RA.region env_ok ?_
 refine OA.p (some 11) (.agg ⟨[(.string s), (.int .i64 0)]⟩) rfl rfl rfl (r_loadA rfl rfl rfl rfl (get_there (by omega) get_here) rfl rfl rfl) ?_
 refine OA.p (some 12) (.int .i64 ((k : Nat) : Int)) rfl rfl rfl rfl ?_
 refine OA.callP (dst := (some 13)) (all := [(.agg ⟨[(.string s), (.int .i64 0)]⟩), (.int .i64 ((k : Nat) : Int))]) (v := (.tuple ⟨[(.agg ⟨[(.string (s.extract k s.size)), (.int .i64 0)]⟩), (.string (s.extract 0 k))]⟩)) (hd.of (by omega) (kb2 (by omega))) rfl rfl rfl rfl rfl rfl rfl rfl (s73 s k hk) ?_
 intro n1 hn1
 refine OA.p (some 10) (.tuple ⟨[(.agg ⟨[(.string (s.extract k s.size)), (.int .i64 0)]⟩), (.string (s.extract 0 k))]⟩) rfl rfl rfl rfl ?_
 refine OA.p (some 14) (.agg ⟨[(.string (s.extract k s.size)), (.int .i64 0)]⟩) rfl rfl rfl rfl ?_
 refine OA.p (some 15) (.string (s.extract 0 k)) rfl rfl rfl rfl ?_
 refine OA.op1 (dst := (some 6)) (v := (.pointer (some ⟨n1, 0, some 0⟩))) (n1 := (n1 + 1)) (w := (n1, some ⟨[[(.string ByteArray.empty), (.int .i64 0)]], 2, 85, true⟩)) rfl rfl rfl rfl (by omega) ?_
 refine OA.op1 (dst := none) (v := (.tuple #[])) (n1 := (n1 + 1)) (w := (n1, some ⟨[[(.string (s.extract k s.size)), (.int .i64 0)]], 2, 85, true⟩)) rfl rfl rfl (r_store rfl rfl rfl rfl rfl rfl rfl get_here rfl rfl (Nat.le_of_ble_eq_true rfl) rfl) (by omega) ?_
 refine OA.p (some 7) (.string (s.extract 0 k)) rfl rfl rfl rfl ?_
 refine OA.nil ?_
 intro _
 refine RA.seq hd ?_
 refine RA.region env_ok ?_
 refine OA.p (some 8) (.int .u64 0) rfl rfl rfl rfl ?_
 refine OA.nil ?_
 intro _
 refine RA.seq hd ?_
 refine RA.seq hd ?_
 refine RA.region env_ok ?_
 refine OA.p (some 9) (.int .i64 0) rfl rfl rfl rfl ?_
 refine OA.nil ?_
 intro _
 refine RA.block ?_
 have hks : (s.extract 0 k).size = k := by rw [size_cut _ _ _ hk]; rfl
 refine RA.weaken (D' := [(n1, some ⟨[[(.string (s.extract k s.size)), (.int .i64 0)]], 2, 85, true⟩), ((n + 1), some ⟨[[(.string ByteArray.empty), (.int .i64 0)]], 2, 85, true⟩), (n, some ⟨[[(.string s), (.int .i64 0)]], 2, 85, true⟩)]) hd (Less.of (fac (mm (fun _ => get_here) (fun _ => get_here)) (fac (mm (fun _ => (get_there (by omega) get_here)) (fun _ => (gt2 (by omega) get_here))) (fac (mm (fun _ => (gt2 (by omega) get_here)) (fun _ => (gt3 (by omega) get_here))) fan))) (gone_of (by simp only [goneP, memP, List.cons_append, List.nil_append, true_or, or_true, true_and, and_true, or_false] <;> omega))) ?_
 refine RA.loop hd (fun kk_ τ n' D => ∃ i : Nat, ∃ m : Nat,  kk_ = (k - i) ∧ (n1 + 1) ≤ n' ∧ Has τ [(4, (.pointer (some ⟨(n + 1), 0, some 0⟩))), (6, (.pointer (some ⟨n1, 0, some 0⟩))), (7, (.string (s.extract 0 k))), (8, (.int .u64 ((m : Nat) : Int))), (9, (.int .i64 ((i : Nat) : Int)))] ∧ D = [(n1, some ⟨[[(.string (s.extract k s.size)), (.int .i64 0)]], 2, 85, true⟩), ((n + 1), some ⟨[[(.string ByteArray.empty), (.int .i64 0)]], 2, 85, true⟩), (n, some ⟨[[(.string s), (.int .i64 0)]], 2, 85, true⟩)] ∧ (∀ i ∈ keys D, i < n') ∧ i ≤ k ∧ m = beN ((L (s.extract 0 k)).take i) ∧ m < 256 ^ i) ((k - 0)) ⟨0, 0, rfl, by omega, ⟨rfl, rfl, rfl, rfl, rfl, trivial⟩, rfl, (kb3 (by omega)), ⟨by omega, rfl, by decide⟩⟩ ?_
 rintro kn2 τ2 n2 _ ⟨i, m, rfl, hn2, hHn2, rfl, hKn2, hIn2⟩
 rw [Has.eq hHn2]
 have hKn2_0 : n1 < n2 := hKn2 _ (by simp only [keys, List.map_cons, List.map_nil, List.mem_cons, true_or, or_true])
 have hKn2_1 : (n + 1) < n2 := hKn2 _ (by simp only [keys, List.map_cons, List.map_nil, List.mem_cons, true_or, or_true])
 have hKn2_2 : n < n2 := hKn2 _ (by simp only [keys, List.map_cons, List.map_nil, List.mem_cons, true_or, or_true])
 simp only [keys, List.map, List.forall_mem_cons, List.mem_cons, List.not_mem_nil, false_imp_iff, implies_true, and_true] at hKn2
 obtain ⟨hi, hm, hb⟩ := hIn2
 have hb2 : i < k → m < 72057594037927936 := fun h => Nat.lt_of_lt_of_le hb (Nat.pow_le_pow_right (n := 256) (j := 7) (by decide) (by omega))
 refine RA.seq hd ?_
 refine RA.seq hd ?_
 refine RA.region env_ok ?_
 refine OA.p (some 16) (.int .i64 ((i : Nat) : Int)) rfl rfl rfl rfl ?_
 refine OA.p (some 17) (.string (s.extract 0 k)) rfl rfl rfl rfl ?_
 refine OA.p (some 18) (.int .i64 (((s.extract 0 k).size : Nat) : Int)) rfl rfl rfl rfl ?_
 by_cases hc1 : ((i : Nat) : Int) < (((s.extract 0 k).size : Nat) : Int)
 ·
  refine OA.p (some 19) (.bool true) rfl rfl rfl (Eq.trans (r_bin rfl rfl rfl (b_lss rfl)) (dT hc1)) ?_
  refine OA.nil ?_
  intro _
  refine RA.condT rfl ?_
  refine RA.skip env_ok ?_
  intro _
  refine RA.seq hd ?_
  refine RA.block ?_
  refine RA.region env_ok ?_
  refine OA.p (some 22) (.int .u64 ((m : Nat) : Int)) rfl rfl rfl rfl ?_
  refine OA.p (some 23) (.int .u64 (((m * 256) : Nat) : Int)) rfl rfl rfl (r_bin rfl rfl rfl (b_mul (u64_eq (by omega)))) ?_
  refine OA.p (some 24) (.string (s.extract 0 k)) rfl rfl rfl rfl ?_
  refine OA.p (some 25) (.int .i64 ((i : Nat) : Int)) rfl rfl rfl rfl ?_
  refine OA.p (some 26) (.int .u8 (((s.extract 0 k).get! i).toNat : Nat)) rfl rfl rfl (r_idxS (l := i) rfl rfl rfl rfl rfl (by omega) (by omega)) ?_
  refine OA.p (some 27) (.int .u64 ((((s.extract 0 k).get! i).toNat : Nat) : Int)) rfl rfl rfl (r_cvt rfl rfl rfl rfl rfl ⟨_, rfl⟩ (u64_eq (by have := UInt8.toNat_lt ((s.extract 0 k).get! i); omega))) ?_
  refine OA.p (some 28) (.int .u64 (((m * 256 + ((s.extract 0 k).get! i).toNat) : Nat) : Int)) rfl rfl rfl (r_bin rfl rfl rfl (b_add (u64_eq (by have := UInt8.toNat_lt ((s.extract 0 k).get! i); omega)))) ?_
  refine OA.p (some 8) (.int .u64 (((m * 256 + ((s.extract 0 k).get! i).toNat) : Nat) : Int)) rfl rfl rfl rfl ?_
  refine OA.nil ?_
  intro _
  refine RA.region env_ok ?_
  refine OA.p (some 20) (.int .i64 ((i : Nat) : Int)) rfl rfl rfl rfl ?_
  refine OA.p (some 21) (.int .i64 (((i + 1) : Nat) : Int)) rfl rfl rfl (r_bin rfl rfl rfl (b_add (i64_eq (by omega)))) ?_
  refine OA.p (some 9) (.int .i64 (((i + 1) : Nat) : Int)) rfl rfl rfl rfl ?_
  refine OA.nil ?_
  refine ⟨(k - (i + 1)), by omega, [(n1, some ⟨[[(.string (s.extract k s.size)), (.int .i64 0)]], 2, 85, true⟩), ((n + 1), some ⟨[[(.string ByteArray.empty), (.int .i64 0)]], 2, 85, true⟩), (n, some ⟨[[(.string s), (.int .i64 0)]], 2, 85, true⟩)], (Less.refl _ _ _), (i + 1), (m * 256 + ((s.extract 0 k).get! i).toNat), rfl, by omega, ⟨rfl, rfl, rfl, rfl, rfl, trivial⟩, rfl, (kb3 (by omega)), ⟨by omega, by rw [beN_take _ _ (by omega), hm], by have := UInt8.toNat_lt ((s.extract 0 k).get! i); rw [Nat.pow_succ]; omega⟩⟩
 ·
  refine OA.p (some 19) (.bool false) rfl rfl rfl (Eq.trans (r_bin rfl rfl rfl (b_lss rfl)) (dF hc1)) ?_
  refine OA.nil ?_
  intro _
  refine RA.condF rfl ?_
  refine RA.exit env_ok ?_
  intro _
  refine RA.seq hd ?_
  refine RA.region env_ok ?_
  refine OA.p (some 29) (.agg ⟨[(.string (s.extract k s.size)), (.int .i64 0)]⟩) rfl rfl rfl (r_loadA rfl rfl rfl rfl get_here rfl rfl rfl) ?_
  refine OA.p (some 30) (.int .u64 ((m : Nat) : Int)) rfl rfl rfl rfl ?_
  refine OA.op1 (dst := none) (v := (.tuple #[])) (n1 := n2) (w := ((n + 1), some ⟨[[(.string (s.extract k s.size)), (.int .i64 0)]], 2, 85, true⟩)) rfl rfl rfl (r_store rfl rfl rfl rfl rfl rfl rfl (get_there (by omega) get_here) rfl rfl (Nat.le_of_ble_eq_true rfl) rfl) (by omega) ?_
  refine OA.p (some 5) (.int .u64 ((m : Nat) : Int)) rfl rfl rfl rfl ?_
  refine OA.nil ?_
  intro _
  refine RA.ret env_ok ?_
  refine ⟨.inr rfl, [(.agg ⟨[(.string (s.extract k s.size)), (.int .i64 0)]⟩), (.int .u64 ((m : Nat) : Int))], (resL_cons (res_cellA rfl rfl rfl get_here rfl rfl rfl) (resL_cons rfl resL_nil)), (by rw [hm, show i = k from by omega, List.take_of_length_le (by rw [L_len]; omega), L_extract, List.drop_zero]; rfl), (kc4 (by omega))⟩
end Go.Proofs.Ytdnkhdkflemkeaa.Vt
