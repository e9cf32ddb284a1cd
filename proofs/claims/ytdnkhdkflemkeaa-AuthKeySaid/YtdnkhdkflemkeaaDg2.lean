/- Dg2: walks through functions of the program, by the calculus; written by a program of this workplace. -/
import Derived.Test.YtdnkhdkflemkeaaDg1
import Derived.Test.YtdnkhdkflemkeaaVm5
namespace Go.Proofs.Ytdnkhdkflemkeaa.Vt
open Go Go.Proofs Go.Proofs.YtdnkhdkflemkeaaV
set_option maxRecDepth 100000
set_option linter.unusedVariables false
set_option linter.unusedSimpArgs false
def beN (l : List UInt8) : Nat := l.foldl (fun a b => a * 256 + b.toNat) 0
theorem beN_snoc (l : List UInt8) (b : UInt8) : beN (l ++ [b]) = beN l * 256 + b.toNat := by unfold beN; rw [List.foldl_append]; rfl
theorem beN_take (s : ByteArray) (i : Nat) (h : i < s.size) : beN ((L s).take (i + 1)) = beN ((L s).take i) * 256 + (s.get! i).toNat := by
  rw [List.take_add_one, L_get s i h]
  exact beN_snoc _ _
theorem s61 {n : Nat} {σ : Store} (hd : Dom n σ) (s : ByteArray)   : CQ Try.prog noDen 61 [(.string s)] n σ (fun v n' d => ∃ i, n ≤ i ∧ i < n' ∧ v = .pointer (some ⟨i, 0, some 0⟩) ∧ d = [(i, some ⟨[[(.string s), (.int .i64 0)]], 2, 106, true⟩)]) := by
 refine CQ.body (E := env) env_ok hd rfl rfl (by show _ ≤ _; exact of_decide_eq_true (by kernel_rfl)) ?_
 refine RA.seq hd ?_
 refine RA.region env_ok ?_
 refine OA.p (some 2) (.pointer none) rfl rfl rfl rfl ?_
 refine OA.nil ?_
 intro _
 refine RA.seq hd ?_
 refine RA.region env_ok ?_
 refine OA.p (some 3) (.string s) rfl rfl rfl rfl ?_
 refine OA.p (some 4) (.agg ⟨[(.string s), (.int .i64 0)]⟩) rfl rfl rfl (by kernel_rfl) ?_
 refine OA.op1 (dst := (some 5)) (v := (.pointer (some ⟨n, 0, some 0⟩))) (n1 := (n + 1)) (w := (n, some ⟨[[(.string s), (.int .i64 0)]], 2, 106, true⟩)) rfl rfl rfl rfl (by omega) ?_
 refine OA.p (some 2) (.pointer (some ⟨n, 0, some 0⟩)) rfl rfl rfl rfl ?_
 refine OA.nil ?_
 intro _
 refine RA.ret env_ok ?_
 refine ⟨.inr rfl, [(.pointer (some ⟨n, 0, some 0⟩))], (resL_cons rfl resL_nil), [(n, some ⟨[[(.string s), (.int .i64 0)]], 2, 106, true⟩)], (Less.refl _ _ _), ⟨n, by omega, by omega, rfl, rfl⟩⟩

theorem s75 {σ : Store} (r : Nat) (s : ByteArray) (hr : σ r = some ⟨[[(.string s), (.int .i64 0)]], 2, 106, true⟩)  : PS Try.prog noDen 75 [(.pointer (some ⟨r, 0, some 0⟩))] σ (.int .i64 0) := by
 refine PS.body (E := env) env_ok rfl rfl (by show _ ≤ _; exact of_decide_eq_true (by kernel_rfl)) (fun n hd => ?_)
 have lhr := hd.lt hr
 refine RA.seq hd ?_
 refine RA.region env_ok ?_
 refine OA.p (some 2) (.int .i64 0) rfl rfl rfl rfl ?_
 refine OA.nil ?_
 intro _
 refine RA.seq hd ?_
 refine RA.seq hd ?_
 refine RA.region env_ok ?_
 refine OA.p (some 3) (.pointer (some ⟨r, 0, some 0⟩)) rfl rfl rfl rfl ?_
 refine OA.p (some 4) (.bool false) rfl rfl rfl rfl ?_
 refine OA.nil ?_
 intro _
 refine RA.condF rfl ?_
 refine RA.skip env_ok ?_
 intro _
 refine RA.seq hd ?_
 refine RA.region env_ok ?_
 refine OA.p (some 5) (.pointer (some ⟨r, 0, some 0⟩)) rfl rfl rfl rfl ?_
 refine OA.p (some 6) (.pointer (some ⟨r, 0, some 0⟩)) rfl rfl rfl rfl ?_
 refine OA.p (some 7) (.pointer (some ⟨r, 0, some 1⟩)) rfl rfl rfl rfl ?_
 refine OA.p (some 8) (.int .i64 0) rfl rfl rfl (r_load1 rfl rfl rfl rfl rfl hr rfl rfl) ?_
 refine OA.p (some 2) (.int .i64 0) rfl rfl rfl rfl ?_
 refine OA.nil ?_
 intro _
 refine RA.ret env_ok ?_
 refine ⟨.inr rfl, [(.int .i64 0)], (resL_cons rfl resL_nil), rfl, (fun i hi => by cases hi)⟩

theorem s65 {n : Nat} {σ : Store} (hd : Dom n σ) (r : Nat) (s : ByteArray) (k : Nat) (hk : k ≤ s.size) (hs : s.size < 4294967296) (hr : σ r = some ⟨[[(.string s), (.int .i64 0)]], 2, 106, true⟩)  : CQ Try.prog noDen 65 [(.pointer (some ⟨r, 0, some 0⟩)), (.int .i64 ((k : Nat) : Int))] n σ (fun v n' d => v = .string (s.extract 0 k) ∧ d = [(r, some ⟨[[(.string (s.extract k s.size)), (.int .i64 0)]], 2, 106, true⟩)]) := by
 have lhr := hd.lt hr
 refine CQ.body (E := env) env_ok hd rfl rfl (by show _ ≤ _; exact of_decide_eq_true (by kernel_rfl)) ?_
 refine RA.seq hd ?_
 refine RA.region env_ok ?_
 refine OA.p (some 4) (.string (ByteArray.mk #[])) rfl rfl rfl rfl ?_
 refine OA.nil ?_
 intro _
 refine RA.seq hd ?_
 refine RA.seq hd ?_
 refine RA.region env_ok ?_
 refine OA.p (some 6) (.pointer (some ⟨r, 0, some 0⟩)) rfl rfl rfl rfl ?_
 refine OA.callP (dst := (some 7)) (all := [(.pointer (some ⟨r, 0, some 0⟩))]) (v := (.int .i64 0)) (hd.up (by omega)) rfl rfl rfl rfl rfl rfl rfl rfl (s75 r _ hr) ?_
 intro n1 hn1
 refine OA.p (some 8) (.bool false) rfl rfl rfl (r_bin rfl rfl rfl (b_neq rfl)) ?_
 refine OA.p (some 9) (.bool false) rfl rfl rfl rfl ?_
 refine OA.p (some 10) (.int .i64 ((k : Nat) : Int)) rfl rfl rfl rfl ?_
 have hc1 : ¬ (((k : Nat) : Int) < 0) := fun hdd => by exfalso; omega
 refine OA.p (some 11) (.bool false) rfl rfl rfl (Eq.trans (r_bin rfl rfl rfl (b_lss rfl)) (dF hc1)) ?_
 refine OA.p (some 12) (.bool false) rfl rfl rfl rfl ?_
 refine OA.p (some 13) (.bool false) rfl rfl rfl rfl ?_
 refine OA.p (some 14) (.int .i64 ((k : Nat) : Int)) rfl rfl rfl rfl ?_
 refine OA.p (some 15) (.pointer (some ⟨r, 0, some 0⟩)) rfl rfl rfl rfl ?_
 refine OA.p (some 16) (.pointer (some ⟨r, 0, some 0⟩)) rfl rfl rfl rfl ?_
 refine OA.p (some 17) (.pointer (some ⟨r, 0, some 0⟩)) rfl rfl rfl rfl ?_
 refine OA.p (some 18) (.string s) rfl rfl rfl (r_load1 rfl rfl rfl rfl rfl hr rfl rfl) ?_
 refine OA.p (some 19) (.int .i64 ((s.size : Nat) : Int)) rfl rfl rfl rfl ?_
 have hc2 : ¬ (((s.size : Nat) : Int) < ((k : Nat) : Int)) := fun hdd => by exfalso; omega
 refine OA.p (some 20) (.bool false) rfl rfl rfl (Eq.trans (r_bin rfl rfl rfl (b_gtr rfl)) (dF hc2)) ?_
 refine OA.p (some 21) (.bool false) rfl rfl rfl rfl ?_
 refine OA.nil ?_
 intro _
 refine RA.condF rfl ?_
 refine RA.skip env_ok ?_
 intro _
 refine RA.seq hd ?_
 refine RA.region env_ok ?_
 refine OA.p (some 24) (.pointer (some ⟨r, 0, some 0⟩)) rfl rfl rfl rfl ?_
 refine OA.p (some 25) (.pointer (some ⟨r, 0, some 0⟩)) rfl rfl rfl rfl ?_
 refine OA.p (some 26) (.pointer (some ⟨r, 0, some 0⟩)) rfl rfl rfl rfl ?_
 refine OA.p (some 27) (.string s) rfl rfl rfl (r_load1 rfl rfl rfl rfl rfl hr rfl rfl) ?_
 refine OA.p (some 28) (.int .i64 ((k : Nat) : Int)) rfl rfl rfl rfl ?_
 refine OA.p (some 29) (.string (s.extract 0 k)) rfl rfl rfl (r_cut (a := 0) (b := k) rfl rfl (fun _ => rfl) (fun _ => rfl) rfl rfl rfl bound_nat (by omega) (by omega) rfl) ?_
 refine OA.p (some 5) (.string (s.extract 0 k)) rfl rfl rfl rfl ?_
 refine OA.nil ?_
 intro _
 refine RA.seq hd ?_
 refine RA.region env_ok ?_
 refine OA.p (some 30) (.pointer (some ⟨r, 0, some 0⟩)) rfl rfl rfl rfl ?_
 refine OA.p (some 31) (.pointer (some ⟨r, 0, some 0⟩)) rfl rfl rfl rfl ?_
 refine OA.p (some 32) (.pointer (some ⟨r, 0, some 0⟩)) rfl rfl rfl rfl ?_
 refine OA.p (some 33) (.pointer (some ⟨r, 0, some 0⟩)) rfl rfl rfl rfl ?_
 refine OA.p (some 34) (.string s) rfl rfl rfl (r_load1 rfl rfl rfl rfl rfl hr rfl rfl) ?_
 refine OA.p (some 35) (.int .i64 ((k : Nat) : Int)) rfl rfl rfl rfl ?_
 refine OA.p (some 36) (.string (s.extract k s.size)) rfl rfl rfl (r_cut (a := k) (b := s.size) rfl rfl (fun _ => rfl) (fun _ => rfl) rfl rfl bound_nat rfl (by omega) (by omega) rfl) ?_
 refine OA.p (some 37) (.pointer (some ⟨r, 0, some 0⟩)) rfl rfl rfl rfl ?_
 refine OA.p (some 38) (.pointer (some ⟨r, 0, some 0⟩)) rfl rfl rfl rfl ?_
 refine OA.op1 (dst := none) (v := (.tuple #[])) (n1 := n1) (w := (r, some ⟨[[(.string (s.extract k s.size)), (.int .i64 0)]], 2, 106, true⟩)) rfl rfl rfl (r_store rfl rfl rfl rfl rfl rfl rfl hr rfl rfl (Nat.le_of_ble_eq_true rfl) rfl) (by omega) ?_
 refine OA.nil ?_
 intro _
 refine RA.rebase [(0, (.pointer (some ⟨r, 0, some 0⟩))), (1, (.int .i64 ((k : Nat) : Int))), (4, (.string (ByteArray.mk #[]))), (5, (.string (s.extract 0 k))), (21, (.bool false))] ⟨rfl, rfl, rfl, rfl, rfl, trivial⟩ (fun τr2 => ?_)
 refine RA.seq hd ?_
 refine RA.region env_ok ?_
 refine OA.p (some 39) (.string (s.extract 0 k)) rfl rfl rfl rfl ?_
 refine OA.p (some 4) (.string (s.extract 0 k)) rfl rfl rfl rfl ?_
 refine OA.nil ?_
 intro _
 refine RA.ret env_ok ?_
 refine ⟨.inr rfl, [(.string (s.extract 0 k))], (resL_cons rfl resL_nil), [(r, some ⟨[[(.string (s.extract k s.size)), (.int .i64 0)]], 2, 106, true⟩)], (Less.refl _ _ _), ⟨rfl, rfl⟩⟩

theorem s74 {n : Nat} {σ : Store} (hd : Dom n σ) (r : Nat) (s : ByteArray) (k : Nat) (hk : k ≤ s.size) (hk8 : k ≤ 8) (hs : s.size < 4294967296) (hr : σ r = some ⟨[[(.string s), (.int .i64 0)]], 2, 106, true⟩)  : CQ Try.prog noDen 74 [(.pointer (some ⟨r, 0, some 0⟩)), (.int .i64 ((k : Nat) : Int))] n σ (fun v n' d => v = .int .u64 ((beN ((L s).take k) : Nat) : Int) ∧ d = [(r, some ⟨[[(.string (s.extract k s.size)), (.int .i64 0)]], 2, 106, true⟩)]) := by
 have lhr := hd.lt hr
 refine CQ.body (E := env) env_ok hd rfl rfl (by show _ ≤ _; exact of_decide_eq_true (by kernel_rfl)) ?_
 refine RA.seq hd ?_
 refine RA.region env_ok ?_
 refine OA.p (some 4) (.int .u64 0) rfl rfl rfl rfl ?_
 refine OA.nil ?_
 intro _
 refine RA.seq hd ?_
 refine RA.region env_ok ?_
 refine OA.p (some 5) (.int .u64 0) rfl rfl rfl rfl ?_
 refine OA.nil ?_
 intro _
 refine RA.seq hd ?_
 refine RA.region env_ok ?_
 refine OA.p (some 8) (.pointer (some ⟨r, 0, some 0⟩)) rfl rfl rfl rfl ?_
 refine OA.p (some 9) (.int .i64 ((k : Nat) : Int)) rfl rfl rfl rfl ?_
 refine OA.call (dst := (some 10)) (all := [(.pointer (some ⟨r, 0, some 0⟩)), (.int .i64 ((k : Nat) : Int))]) rfl rfl rfl rfl rfl rfl rfl rfl (CQ.imp (s65 (hd.up (by omega)) r s k hk hs hr) ?_)
 rintro _ n1 _ ⟨rfl, rfl⟩ hn1
 refine OA.app1 ?_
 refine OA.p (some 6) (.string (s.extract 0 k)) rfl rfl rfl rfl ?_
 refine OA.nil ?_
 intro _
 refine RA.seq hd ?_
 refine RA.seq hd ?_
 refine RA.region env_ok ?_
 refine OA.p (some 11) (.string (s.extract 0 k)) rfl rfl rfl rfl ?_
 refine OA.p (some 12) (.int .i64 (((s.extract 0 k).size : Nat) : Int)) rfl rfl rfl rfl ?_
 refine OA.p (some 13) (.int .i64 0) rfl rfl rfl rfl ?_
 refine OA.nil ?_
 intro _
 refine RA.block ?_
 have hks : (s.extract 0 k).size = k := by rw [size_cut _ _ _ hk]; rfl
 refine RA.loop hd (fun kk_ τ n' D => ∃ i : Nat, ∃ m : Nat,  kk_ = (k - i) ∧ n1 ≤ n' ∧ Has τ [(5, (.int .u64 ((m : Nat) : Int))), (6, (.string (s.extract 0 k))), (12, (.int .i64 (((s.extract 0 k).size : Nat) : Int))), (13, (.int .i64 ((i : Nat) : Int)))] ∧ D = [(r, some ⟨[[(.string (s.extract k s.size)), (.int .i64 0)]], 2, 106, true⟩)] ∧ (∀ i ∈ keys D, i < n') ∧ i ≤ k ∧ m = beN ((L (s.extract 0 k)).take i) ∧ m < 256 ^ i) ((k - 0)) ⟨0, 0, rfl, by omega, ⟨rfl, rfl, rfl, rfl, trivial⟩, rfl, (kb1 (by omega)), ⟨by omega, rfl, by decide⟩⟩ ?_
 rintro kn2 τ2 n2 _ ⟨i, m, rfl, hn2, hHn2, rfl, hKn2, hIn2⟩
 rw [Has.eq hHn2]
 have hKn2_0 : r < n2 := hKn2 _ (by simp only [keys, List.map_cons, List.map_nil, List.mem_cons, true_or, or_true])
 simp only [keys, List.map, List.forall_mem_cons, List.mem_cons, List.not_mem_nil, false_imp_iff, implies_true, and_true] at hKn2
 obtain ⟨hi, hm, hb⟩ := hIn2
 have hb2 : i < k → m < 72057594037927936 := fun h => Nat.lt_of_lt_of_le hb (Nat.pow_le_pow_right (n := 256) (j := 7) (by decide) (by omega))
 refine RA.seq hd ?_
 refine RA.region env_ok ?_
 by_cases hc1 : ((i : Nat) : Int) < (((s.extract 0 k).size : Nat) : Int)
 ·
  refine OA.p (some 14) (.bool true) rfl rfl rfl (Eq.trans (r_bin rfl rfl rfl (b_lss rfl)) (dT hc1)) ?_
  refine OA.nil ?_
  intro _
  refine RA.seq hd ?_
  refine RA.condT rfl ?_
  refine RA.skip env_ok ?_
  intro _
  refine RA.seq hd ?_
  refine RA.block ?_
  refine RA.seq hd ?_
  refine RA.region env_ok ?_
  refine OA.p (some 15) (.int .i64 ((i : Nat) : Int)) rfl rfl rfl rfl ?_
  refine OA.p (some 7) (.int .i64 ((i : Nat) : Int)) rfl rfl rfl rfl ?_
  refine OA.nil ?_
  intro _
  refine RA.region env_ok ?_
  refine OA.p (some 16) (.int .u64 ((m : Nat) : Int)) rfl rfl rfl rfl ?_
  refine OA.p (some 17) (.int .u64 (((m * 256) : Nat) : Int)) rfl rfl rfl (r_bin rfl rfl rfl (b_shl8 (a := m) (by omega))) ?_
  refine OA.p (some 18) (.string (s.extract 0 k)) rfl rfl rfl rfl ?_
  refine OA.p (some 19) (.int .i64 ((i : Nat) : Int)) rfl rfl rfl rfl ?_
  refine OA.p (some 20) (.int .u8 (((s.extract 0 k).get! i).toNat : Nat)) rfl rfl rfl (r_idxS (l := i) rfl rfl rfl rfl rfl (by omega) (by omega)) ?_
  refine OA.p (some 21) (.int .u64 ((((s.extract 0 k).get! i).toNat : Nat) : Int)) rfl rfl rfl (r_cvt rfl rfl rfl rfl rfl ⟨_, rfl⟩ (u64_eq (by have := UInt8.toNat_lt ((s.extract 0 k).get! i); omega))) ?_
  refine OA.p (some 22) (.int .u64 (((m * 256 + ((s.extract 0 k).get! i).toNat) : Nat) : Int)) rfl rfl rfl (r_bin rfl rfl rfl (b_or8 (a := m) (c := ((s.extract 0 k).get! i).toNat) (by omega) (UInt8.toNat_lt _))) ?_
  refine OA.p (some 5) (.int .u64 (((m * 256 + ((s.extract 0 k).get! i).toNat) : Nat) : Int)) rfl rfl rfl rfl ?_
  refine OA.nil ?_
  intro _
  refine RA.region env_ok ?_
  refine OA.p (some 23) (.int .i64 (((i + 1) : Nat) : Int)) rfl rfl rfl (r_bin rfl rfl rfl (b_add (i64_eq (by omega)))) ?_
  refine OA.p (some 13) (.int .i64 (((i + 1) : Nat) : Int)) rfl rfl rfl rfl ?_
  refine OA.nil ?_
  refine ⟨(k - (i + 1)), by omega, [(r, some ⟨[[(.string (s.extract k s.size)), (.int .i64 0)]], 2, 106, true⟩)], (Less.refl _ _ _), (i + 1), (m * 256 + ((s.extract 0 k).get! i).toNat), rfl, by omega, ⟨rfl, rfl, rfl, rfl, trivial⟩, rfl, (kb1 (by omega)), ⟨by omega, by rw [beN_take _ _ (by omega), hm], by have := UInt8.toNat_lt ((s.extract 0 k).get! i); rw [Nat.pow_succ]; omega⟩⟩
 ·
  refine OA.p (some 14) (.bool false) rfl rfl rfl (Eq.trans (r_bin rfl rfl rfl (b_lss rfl)) (dF hc1)) ?_
  refine OA.nil ?_
  intro _
  refine RA.seq hd ?_
  refine RA.condF rfl ?_
  refine RA.exit env_ok ?_
  intro _
  refine RA.seq hd ?_
  refine RA.region env_ok ?_
  refine OA.p (some 24) (.int .u64 ((m : Nat) : Int)) rfl rfl rfl rfl ?_
  refine OA.p (some 4) (.int .u64 ((m : Nat) : Int)) rfl rfl rfl rfl ?_
  refine OA.nil ?_
  intro _
  refine RA.ret env_ok ?_
  refine ⟨.inr rfl, [(.int .u64 ((m : Nat) : Int))], (resL_cons rfl resL_nil), [(r, some ⟨[[(.string (s.extract k s.size)), (.int .i64 0)]], 2, 106, true⟩)], (Less.refl _ _ _), ⟨by rw [one, hm, show i = k from by omega, List.take_of_length_le (by rw [L_len]; omega), L_extract, List.drop_zero]; rfl, rfl⟩⟩

theorem s63 {n : Nat} {σ : Store} (hd : Dom n σ) (r : Nat) (s : ByteArray) (hk : 4 ≤ s.size) (hs : s.size < 4294967296) (hr : σ r = some ⟨[[(.string s), (.int .i64 0)]], 2, 106, true⟩)  : CQ Try.prog noDen 63 [(.pointer (some ⟨r, 0, some 0⟩))] n σ (fun v n' d => v = W (BitVec.ofNat 32 (beN ((L s).take 4))) ∧ d = [(r, some ⟨[[(.string (s.extract 4 s.size)), (.int .i64 0)]], 2, 106, true⟩)]) := by
 have lhr := hd.lt hr
 refine CQ.body (E := env) env_ok hd rfl rfl (by show _ ≤ _; exact of_decide_eq_true (by kernel_rfl)) ?_
 refine RA.seq hd ?_
 refine RA.region env_ok ?_
 refine OA.p (some 2) (.int .u32 0) rfl rfl rfl rfl ?_
 refine OA.nil ?_
 intro _
 refine RA.seq hd ?_
 refine RA.region env_ok ?_
 refine OA.p (some 3) (.pointer (some ⟨r, 0, some 0⟩)) rfl rfl rfl rfl ?_
 refine OA.call (dst := (some 4)) (all := [(.pointer (some ⟨r, 0, some 0⟩)), (.int .i64 4)]) rfl rfl rfl rfl rfl rfl rfl rfl (CQ.imp (s74 (hd.up (by omega)) r s 4 hk (by decide) hs hr) ?_)
 rintro _ n1 _ ⟨rfl, rfl⟩ hn1
 refine OA.app1 ?_
 refine OA.p (some 5) (W (BitVec.ofNat 32 (beN ((L s).take 4)))) rfl rfl rfl (r_cvt rfl rfl rfl rfl rfl ⟨_, rfl⟩ (wrap_ofNat32 _)) ?_
 refine OA.p (some 2) (W (BitVec.ofNat 32 (beN ((L s).take 4)))) rfl rfl rfl rfl ?_
 refine OA.nil ?_
 intro _
 refine RA.ret env_ok ?_
 refine ⟨.inr rfl, [(W (BitVec.ofNat 32 (beN ((L s).take 4))))], (resL_cons rfl resL_nil), [(r, some ⟨[[(.string (s.extract 4 s.size)), (.int .i64 0)]], 2, 106, true⟩)], (Less.refl _ _ _), ⟨rfl, rfl⟩⟩
end Go.Proofs.Ytdnkhdkflemkeaa.Vt
