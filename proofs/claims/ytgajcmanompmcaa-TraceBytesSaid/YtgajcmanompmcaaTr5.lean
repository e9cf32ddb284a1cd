/- Tr5: walks through functions of the program, by the calculus; written by a program of this workplace. -/
import Derived.Test.YtgajcmanompmcaaTr4
import Derived.Test.YtgajcmanompmcaaVm5
namespace Go.Proofs.Ytgajcmanompmcaa.Vt
open Go Go.Proofs Go.Proofs.YtgajcmanompmcaaV
set_option maxRecDepth 100000
set_option linter.unusedVariables false
set_option linter.unusedSimpArgs false
theorem sm_iff (x : Int) : sm x ↔ -2147483648 ≤ x ∧ x ≤ 2147483647 := by
  unfold sm
  rw [BitVec.toInt_ofInt, Int.bmod_def]
  constructor
  · intro h; split at h <;> omega
  · intro h; split <;> omega
def putL (m : Nat) : Nat → List UInt8
  | 0 => []
  | k + 1 => putL (m / 256) k ++ [UInt8.ofNat (m % 256)]
theorem putL_len : ∀ (k m : Nat), (putL m k).length = k
  | 0, _ => rfl
  | k + 1, m => by simp [putL, putL_len k]
theorem beN_putL : ∀ (k m : Nat), beN (putL m k) = m % 256 ^ k
  | 0, m => by simp [putL, beN, Nat.mod_one]
  | k + 1, m => by
    rw [putL, beN_snoc, beN_putL k (m / 256), UInt8.toNat_ofNat']
    have h2 : m % 256 ^ (k + 1) = m % 256 + 256 * (m / 256 % 256 ^ k) := by rw [Nat.pow_succ, Nat.mul_comm (256 ^ k) 256, Nat.mod_mul]
    rw [h2]; omega
def u64N (x : Int) : Nat := (x % 18446744073709551616).toNat
theorem u64N_lt (x : Int) : u64N x < 18446744073709551616 := by unfold u64N; omega
theorem wrap_u64s (x : Int) : IntKind.wrap .u64 x = ((u64N x : Nat) : Int) := by rw [IntKind.wrap_u64]; unfold u64N; omega
theorem putL_u4 (x : Int) : putL (u64N x) 4 = be4 (BitVec.ofInt 32 x) := by
  refine beN_inj 4 _ _ (putL_len 4 _) rfl ?_
  rw [beN_putL, beN_be4, BitVec.toNat_ofInt]
  unfold u64N; omega
theorem putL_u1 {x : Int} (h1 : 0 ≤ x) (h2 : x < 256) : putL (u64N x) 1 = [UInt8.ofNat x.toNat] := by
  refine beN_inj 1 _ _ (putL_len 1 _) rfl ?_
  rw [beN_putL]
  show _ = 0 * 256 + (UInt8.ofNat x.toNat).toNat
  rw [UInt8.toNat_ofNat']; unfold u64N; omega
theorem putL_n2 {m : Nat} (h : m < 65536) : putL m 2 = be2 m := by
  refine beN_inj 2 _ _ (putL_len 2 _) rfl ?_
  rw [beN_putL, beN_be2 m h]; omega
theorem bPutz {σ : Store} (m : Nat)   : PS Try.prog noDen 22 [(.int .u64 ((m : Nat) : Int)), (.int .i64 0)] σ (.string (bstr (putL m 0))) := by
 refine PS.body (E := env) env_ok rfl rfl (by show _ ≤ _; exact of_decide_eq_true (by kernel_rfl)) (fun n hd => ?_)
 refine RA.seq hd ?_
 refine RA.region env_ok ?_
 refine OA.p (some 4) (.string (ByteArray.mk #[])) rfl rfl rfl rfl ?_
 refine OA.nil ?_
 intro _
 refine RA.seq hd ?_
 refine RA.seq hd ?_
 refine RA.region env_ok ?_
 refine OA.p (some 5) (.int .i64 0) rfl rfl rfl rfl ?_
 refine OA.p (some 6) (.bool true) rfl rfl rfl (r_bin rfl rfl rfl (b_leq rfl)) ?_
 refine OA.nil ?_
 intro _
 refine RA.condT rfl ?_
 refine RA.seq hd ?_
 refine RA.region env_ok ?_
 refine OA.p (some 4) (.string (ByteArray.mk #[])) rfl rfl rfl rfl ?_
 refine OA.nil ?_
 intro _
 refine RA.ret env_ok ?_
 refine ⟨.inr rfl, [(.string (ByteArray.mk #[]))], (resL_cons rfl resL_nil), rfl, (fun i hi => by cases hi)⟩

theorem bPut : ∀ (k m : Nat) (hm : m < 18446744073709551616) (hk : k ≤ 8) {σ : Store}, PS Try.prog noDen 22 [(.int .u64 ((m : Nat) : Int)), (.int .i64 ((k : Nat) : Int))] σ (.string (bstr (putL m k))) := by
  intro k
  induction k with
  | zero => intro m _ _ σ; exact bPutz m
  | succ k ih =>
    intro m hm hk σ
    refine PS.body (E := env) env_ok rfl rfl (by show _ ≤ _; exact of_decide_eq_true (by kernel_rfl)) (fun n hd => ?_)
    refine RA.seq hd ?_
    refine RA.region env_ok ?_
    refine OA.p (some 4) (.string (ByteArray.mk #[])) rfl rfl rfl rfl ?_
    refine OA.nil ?_
    intro _
    refine RA.seq hd ?_
    refine RA.seq hd ?_
    refine RA.region env_ok ?_
    refine OA.p (some 5) (.int .i64 (((k + 1) : Nat) : Int)) rfl rfl rfl rfl ?_
    have hc1 : ¬ ((((k + 1) : Nat) : Int) ≤ 0) := fun hdd => by exfalso; omega
    refine OA.p (some 6) (.bool false) rfl rfl rfl (Eq.trans (r_bin rfl rfl rfl (b_leq rfl)) (dF hc1)) ?_
    refine OA.nil ?_
    intro _
    refine RA.condF rfl ?_
    refine RA.skip env_ok ?_
    intro _
    refine RA.seq hd ?_
    refine RA.par (md := [some [], some [], some [], some [], some [], some [], some [], some [], some [], none, some [], some []]) env_ok (hd.up (by omega)) (by kernel_rfl) ?_
    refine PQ.pure (dst := (some 7)) (v := (.int .u64 ((m : Nat) : Int))) rfl rfl rfl noStore (none_ok _ _) rfl ?_
    refine PQ.pure (dst := (some 8)) (v := (.int .u64 (((m / 256) : Nat) : Int))) rfl rfl rfl noStore (none_ok _ _) (r_bin rfl rfl rfl (b_quoN (a := m) (c := 256) (by decide) (u64_eq (by omega)))) ?_
    refine PQ.pure (dst := (some 9)) (v := (.int .i64 (((k + 1) : Nat) : Int))) rfl rfl rfl noStore (none_ok _ _) rfl ?_
    refine PQ.pure (dst := (some 10)) (v := (.int .i64 ((((k + 1) - 1) : Nat) : Int))) rfl rfl rfl noStore (none_ok _ _) (r_bin rfl rfl rfl (b_sub (i64_eq (by omega)))) ?_
    refine PQ.callP (dst := (some 11)) (all := [(.int .u64 (((m / 256) : Nat) : Int)), (.int .i64 ((((k + 1) - 1) : Nat) : Int))]) (v := (.string (bstr (putL (m / 256) k)))) noStore (dom_none _) rfl rfl rfl rfl rfl rfl rfl rfl (none_ok _ _) (ih (m / 256) (by omega) (by omega)) ?_
    intro n1 hn1
    refine PQ.pure (dst := (some 12)) (v := (.int .u64 ((m : Nat) : Int))) rfl rfl rfl noStore (none_ok _ _) rfl ?_
    refine PQ.pure (dst := (some 13)) (v := (.int .u64 (((m % 256) : Nat) : Int))) rfl rfl rfl noStore (none_ok _ _) (r_bin rfl rfl rfl (b_remN (a := m) (c := 256) (by decide))) ?_
    refine PQ.pure (dst := (some 14)) (v := (.int .u8 (((UInt8.ofNat (m % 256)).toNat : Nat) : Int))) rfl rfl rfl noStore (none_ok _ _) (r_cvt rfl rfl rfl rfl rfl ⟨_, rfl⟩ (wrap_u8n _)) ?_
    refine PQ.op (dst := (some 15)) (v := (.slice (some ⟨n1, 0, none⟩) 1 0)) (n1 := (n1 + 1)) (d1 := [(n1, some ⟨(bc [(UInt8.ofNat (m % 256))]), 1, 5, true⟩)]) rfl rfl rfl noStore (none_ok _ _) (by kernel_rfl) (by omega) (kp1 (wr_new (by omega) (by omega))) ?_
    refine PQ.pure (dst := (some 16)) (v := (.string (bstr (([(UInt8.ofNat (m % 256))].drop 0).take 1)))) rfl rfl rfl _ (seen_any (V := [(n1, some ⟨(bc [(UInt8.ofNat (m % 256))]), 1, 5, true⟩)]) (D := []) (by kernel_rfl)) (r_b2s rfl rfl rfl rfl rfl rfl rfl rfl get_here (by rw [show ([(UInt8.ofNat (m % 256))] : List UInt8).length = 1 from rfl]; omega)) ?_
    refine PQ.pure (dst := (some 17)) (v := (.string ((bstr (putL (m / 256) k)) ++ (bstr (([(UInt8.ofNat (m % 256))].drop 0).take 1))))) rfl rfl rfl noStore (none_ok _ _) (r_cat rfl rfl rfl (by (try simp only [ByteArray.size_append, bstr_size, size_lit, List.size_toArray, List.length_cons, List.length_nil, List.length_take, List.length_drop, List.length_replicate, putL_len]); try omega)) ?_
    refine PQ.pure (dst := (some 4)) (v := (.string ((bstr (putL (m / 256) k)) ++ (bstr (([(UInt8.ofNat (m % 256))].drop 0).take 1))))) rfl rfl rfl noStore (none_ok _ _) rfl ?_
    refine PQ.done (d := [(n1, some ⟨(bc [(UInt8.ofNat (m % 256))]), 1, 5, true⟩)]) (by kernel_rfl) ?_
    intro _
    refine RA.ret env_ok ?_
    refine ⟨.inr rfl, [(.string ((bstr (putL (m / 256) k)) ++ (bstr (([(UInt8.ofNat (m % 256))].drop 0).take 1))))], (resL_cons rfl resL_nil), (by rw [one]; exact congrArg Value.string (L_ext (by rw [L_append, L_bstr, L_bstr, L_bstr]; rfl))), (kc1 (by omega))⟩
   
theorem bSmall {σ : Store} (x : Int)   : PS Try.prog noDen 52 [(.int .i64 x)] σ (.bool (decide (sm x))) := by
 refine PS.body (E := env) env_ok rfl rfl (by show _ ≤ _; exact of_decide_eq_true (by kernel_rfl)) (fun n hd => ?_)
 refine RA.seq hd ?_
 refine RA.region env_ok ?_
 refine OA.p (some 2) (.bool false) rfl rfl rfl rfl ?_
 refine OA.nil ?_
 intro _
 refine RA.seq hd ?_
 refine RA.region env_ok ?_
 refine OA.p (some 3) (.int .i64 x) rfl rfl rfl rfl ?_
 by_cases hc1 : (-2147483648) ≤ x
 ·
  refine OA.p (some 4) (.bool true) rfl rfl rfl (Eq.trans (r_bin rfl rfl rfl (b_geq rfl)) (dT hc1)) ?_
  refine OA.p (some 5) (.bool true) rfl rfl rfl rfl ?_
  refine OA.p (some 6) (.int .i64 x) rfl rfl rfl rfl ?_
  refine OA.p (some 7) (.bool (decide (x ≤ 2147483647))) rfl rfl rfl (r_bin rfl rfl rfl (b_leq rfl)) ?_
  refine OA.p (some 8) (.bool (decide (x ≤ 2147483647))) rfl rfl rfl rfl ?_
  refine OA.p (some 2) (.bool (decide (x ≤ 2147483647))) rfl rfl rfl rfl ?_
  refine OA.nil ?_
  intro _
  refine RA.ret env_ok ?_
  refine ⟨.inr rfl, [(.bool (decide (x ≤ 2147483647)))], (resL_cons rfl resL_nil), (congrArg Value.bool (decide_eq_decide.2 ⟨fun hh => (sm_iff x).2 ⟨hc1, hh⟩, fun hh => ((sm_iff x).1 hh).2⟩)), (fun i hi => by cases hi)⟩
 ·
  refine OA.p (some 4) (.bool false) rfl rfl rfl (Eq.trans (r_bin rfl rfl rfl (b_geq rfl)) (dF hc1)) ?_
  refine OA.p (some 5) (.bool false) rfl rfl rfl rfl ?_
  refine OA.off (dst := (some 6)) rfl rfl rfl ?_
  refine OA.off (dst := (some 7)) rfl rfl rfl ?_
  refine OA.p (some 8) (.bool false) rfl rfl rfl rfl ?_
  refine OA.p (some 2) (.bool false) rfl rfl rfl rfl ?_
  refine OA.nil ?_
  intro _
  refine RA.ret env_ok ?_
  refine ⟨.inr rfl, [(.bool false)], (resL_cons rfl resL_nil), (congrArg Value.bool (decide_eq_false (fun hh : sm x => hc1 ((sm_iff x).1 hh).1)).symm), (fun i hi => by cases hi)⟩

theorem bBytes {σ : Store} (x : Act) (hsz : x.s.size < 18446744073709551616)   : PS Try.prog noDen 11 [(.agg ⟨(cAct x)⟩)] σ (.string (actF x)) := by
 refine PS.body (E := env) env_ok rfl rfl (by show _ ≤ _; exact of_decide_eq_true (by kernel_rfl)) (fun n hd => ?_)
 refine RA.seq hd ?_
 refine RA.region env_ok ?_
 refine OA.op1 (dst := (some 1)) (v := (Pt n 0 0)) (n1 := (n + 1)) (w := (n, some ⟨[(cAct x)], 9, 24, true⟩)) rfl rfl rfl rfl (by omega) ?_
 refine OA.p (some 2) (.string (ByteArray.mk #[])) rfl rfl rfl rfl ?_
 refine OA.nil ?_
 intro _
 refine RA.seq hd ?_
 refine RA.region env_ok ?_
 refine OA.p (some 6) (Pt n 0 1) rfl rfl rfl rfl ?_
 refine OA.p (some 7) (.int .i64 x.host) rfl rfl rfl (r_load1 rfl rfl rfl rfl rfl get_here rfl rfl) ?_
 refine OA.p (some 8) (Pt n 0 2) rfl rfl rfl rfl ?_
 refine OA.p (some 9) (.int .i64 x.a) rfl rfl rfl (r_load1 rfl rfl rfl rfl rfl get_here rfl rfl) ?_
 refine OA.p (some 10) (Pt n 0 3) rfl rfl rfl rfl ?_
 refine OA.p (some 11) (.int .i64 x.b) rfl rfl rfl (r_load1 rfl rfl rfl rfl rfl get_here rfl rfl) ?_
 refine OA.p (some 12) (Pt n 0 4) rfl rfl rfl rfl ?_
 refine OA.p (some 13) (.int .i64 x.c) rfl rfl rfl (r_load1 rfl rfl rfl rfl rfl get_here rfl rfl) ?_
 refine OA.p (some 14) (Pt n 0 5) rfl rfl rfl rfl ?_
 refine OA.p (some 15) (.int .i64 x.d) rfl rfl rfl (r_load1 rfl rfl rfl rfl rfl get_here rfl rfl) ?_
 refine OA.p (some 16) (Pt n 0 6) rfl rfl rfl rfl ?_
 refine OA.p (some 17) (.int .i64 x.e) rfl rfl rfl (r_load1 rfl rfl rfl rfl rfl get_here rfl rfl) ?_
 refine OA.p (some 18) (Pt n 0 7) rfl rfl rfl rfl ?_
 refine OA.p (some 19) (.int .i64 x.f) rfl rfl rfl (r_load1 rfl rfl rfl rfl rfl get_here rfl rfl) ?_
 refine OA.op1 (dst := (some 20)) (v := (.slice (some ⟨(n + 1), 0, none⟩) 7 0)) (n1 := (n + 2)) (w := ((n + 1), some ⟨[[(.int .i64 x.host)], [(.int .i64 x.a)], [(.int .i64 x.b)], [(.int .i64 x.c)], [(.int .i64 x.d)], [(.int .i64 x.e)], [(.int .i64 x.f)]], 1, 3, true⟩)) rfl rfl rfl (by kernel_rfl) (by omega) ?_
 refine OA.p (some 3) (.slice (some ⟨(n + 1), 0, none⟩) 7 0) rfl rfl rfl rfl ?_
 refine OA.nil ?_
 intro _
 refine RA.seq hd ?_
 refine RA.region env_ok ?_
 refine OA.p (some 21) (Pt n 0 0) rfl rfl rfl rfl ?_
 refine OA.p (some 22) (.int .i64 x.what) rfl rfl rfl (r_load1 rfl rfl rfl rfl rfl (get_there (by omega) get_here) rfl rfl) ?_
 refine OA.p (some 23) (.int .u64 (((u64N x.what) : Nat) : Int)) rfl rfl rfl (r_cvt rfl rfl rfl rfl rfl ⟨_, rfl⟩ (wrap_u64s _)) ?_
 refine OA.callP (dst := (some 24)) (all := [(.int .u64 (((u64N x.what) : Nat) : Int)), (.int .i64 1)]) (v := (.string (bstr (putL (u64N x.what) 1)))) (hd.of (by omega) (kb2 (by omega))) rfl rfl rfl rfl rfl rfl rfl rfl (bPut 1 (u64N x.what) (by have := u64N_lt x.what; omega) (by decide)) ?_
 intro n1 hn1
 refine OA.p (some 4) (.string (bstr (putL (u64N x.what) 1))) rfl rfl rfl rfl ?_
 refine OA.nil ?_
 intro _
 refine RA.seq hd ?_
 refine RA.seq hd ?_
 refine RA.region env_ok ?_
 refine OA.p (some 5) (.int .i64 0) rfl rfl rfl rfl ?_
 refine OA.nil ?_
 intro _
 refine RA.block ?_
 refine RA.unroll hd ?_
 refine RA.seq hd ?_
 refine RA.seq hd ?_
 refine RA.region env_ok ?_
 refine OA.p (some 25) (.int .i64 0) rfl rfl rfl rfl ?_
 refine OA.p (some 26) (.slice (some ⟨(n + 1), 0, none⟩) 7 0) rfl rfl rfl rfl ?_
 refine OA.p (some 27) (.int .i64 7) rfl rfl rfl rfl ?_
 refine OA.p (some 28) (.bool true) rfl rfl rfl (r_bin rfl rfl rfl (b_lss rfl)) ?_
 refine OA.nil ?_
 intro _
 refine RA.rebase [(0, (.agg ⟨(cAct x)⟩)), (1, (Pt n 0 0)), (2, (.string (ByteArray.mk #[]))), (3, (.slice (some ⟨(n + 1), 0, none⟩) 7 0)), (4, (.string (bstr (putL (u64N x.what) 1)))), (5, (.int .i64 0)), (28, (.bool true))] ⟨rfl, rfl, rfl, rfl, rfl, rfl, rfl, trivial⟩ (fun τr2 => ?_)
 refine RA.condT rfl ?_
 refine RA.skip env_ok ?_
 intro _
 refine RA.seq hd ?_
 refine RA.block ?_
 refine RA.seq hd ?_
 refine RA.seq hd ?_
 refine RA.region env_ok ?_
 refine OA.p (some 31) (.slice (some ⟨(n + 1), 0, none⟩) 7 0) rfl rfl rfl rfl ?_
 refine OA.p (some 32) (.int .i64 0) rfl rfl rfl rfl ?_
 refine OA.p (some 33) (.pointer (some ⟨(n + 1), 0, some 0⟩)) rfl rfl rfl (r_iaS (l := 0) rfl rfl rfl rfl rfl rfl (by omega) (by omega) get_here rfl (by omega)) ?_
 refine OA.p (some 34) (.int .i64 x.host) rfl rfl rfl (r_load1 rfl rfl rfl rfl rfl get_here rfl rfl) ?_
 by_cases hc1 : sm x.host
 ·
  refine OA.callP (dst := (some 35)) (all := [(.int .i64 x.host)]) (v := (.bool true)) (hd.of (by omega) (kb2 (by omega))) rfl rfl rfl rfl rfl rfl rfl rfl (PS.to (bSmall _) (show (.bool (decide (sm x.host))) = ((.bool true) : Value) from (by first | (rw [decide_eq_true hc1]; done) | (rw [decide_eq_true hc1]; rfl)))) ?_
  intro n3 hn3
  refine OA.p (some 36) (.bool false) rfl rfl rfl rfl ?_
  refine OA.nil ?_
  intro _
  refine RA.condF rfl ?_
  refine RA.skip env_ok ?_
  intro _
  refine RA.region env_ok ?_
  refine OA.p (some 37) (.string (bstr (putL (u64N x.what) 1))) rfl rfl rfl rfl ?_
  refine OA.p (some 38) (.slice (some ⟨(n + 1), 0, none⟩) 7 0) rfl rfl rfl rfl ?_
  refine OA.p (some 39) (.int .i64 0) rfl rfl rfl rfl ?_
  refine OA.p (some 40) (.pointer (some ⟨(n + 1), 0, some 0⟩)) rfl rfl rfl (r_iaS (l := 0) rfl rfl rfl rfl rfl rfl (by omega) (by omega) get_here rfl (by omega)) ?_
  refine OA.p (some 41) (.int .i64 x.host) rfl rfl rfl (r_load1 rfl rfl rfl rfl rfl get_here rfl rfl) ?_
  refine OA.p (some 42) (.int .u64 (((u64N x.host) : Nat) : Int)) rfl rfl rfl (r_cvt rfl rfl rfl rfl rfl ⟨_, rfl⟩ (wrap_u64s _)) ?_
  refine OA.callP (dst := (some 43)) (all := [(.int .u64 (((u64N x.host) : Nat) : Int)), (.int .i64 4)]) (v := (.string (bstr (putL (u64N x.host) 4)))) (hd.of (by omega) (kb2 (by omega))) rfl rfl rfl rfl rfl rfl rfl rfl (bPut 4 (u64N x.host) (by have := u64N_lt x.host; omega) (by decide)) ?_
  intro n4 hn4
  refine OA.p (some 44) (.string ((bstr (putL (u64N x.what) 1)) ++ (bstr (putL (u64N x.host) 4)))) rfl rfl rfl (r_cat rfl rfl rfl (by (try simp only [ByteArray.size_append, bstr_size, size_lit, List.size_toArray, List.length_cons, List.length_nil, List.length_take, List.length_drop, List.length_replicate, putL_len]); try omega)) ?_
  refine OA.p (some 4) (.string ((bstr (putL (u64N x.what) 1)) ++ (bstr (putL (u64N x.host) 4)))) rfl rfl rfl rfl ?_
  refine OA.nil ?_
  intro _
  refine RA.region env_ok ?_
  refine OA.p (some 29) (.int .i64 0) rfl rfl rfl rfl ?_
  refine OA.p (some 30) (.int .i64 1) rfl rfl rfl (r_bin rfl rfl rfl (b_add (i64_eq (by omega)))) ?_
  refine OA.p (some 5) (.int .i64 1) rfl rfl rfl rfl ?_
  refine OA.nil ?_
  intro _
  refine RA.unroll hd ?_
  refine RA.seq hd ?_
  refine RA.seq hd ?_
  refine RA.region env_ok ?_
  refine OA.p (some 25) (.int .i64 1) rfl rfl rfl rfl ?_
  refine OA.p (some 26) (.slice (some ⟨(n + 1), 0, none⟩) 7 0) rfl rfl rfl rfl ?_
  refine OA.p (some 27) (.int .i64 7) rfl rfl rfl rfl ?_
  refine OA.p (some 28) (.bool true) rfl rfl rfl (r_bin rfl rfl rfl (b_lss rfl)) ?_
  refine OA.nil ?_
  intro _
  refine RA.condT rfl ?_
  refine RA.skip env_ok ?_
  intro _
  refine RA.seq hd ?_
  refine RA.block ?_
  refine RA.seq hd ?_
  refine RA.seq hd ?_
  refine RA.region env_ok ?_
  refine OA.p (some 31) (.slice (some ⟨(n + 1), 0, none⟩) 7 0) rfl rfl rfl rfl ?_
  refine OA.p (some 32) (.int .i64 1) rfl rfl rfl rfl ?_
  refine OA.p (some 33) (.pointer (some ⟨(n + 1), 1, some 0⟩)) rfl rfl rfl (r_iaS (l := 1) rfl rfl rfl rfl rfl rfl (by omega) (by omega) get_here rfl (by omega)) ?_
  refine OA.p (some 34) (.int .i64 x.a) rfl rfl rfl (r_load1 rfl rfl rfl rfl rfl get_here rfl rfl) ?_
  by_cases hc2 : sm x.a
  ·
   refine OA.callP (dst := (some 35)) (all := [(.int .i64 x.a)]) (v := (.bool true)) (hd.of (by omega) (kb2 (by omega))) rfl rfl rfl rfl rfl rfl rfl rfl (PS.to (bSmall _) (show (.bool (decide (sm x.a))) = ((.bool true) : Value) from (by first | (rw [decide_eq_true hc2]; done) | (rw [decide_eq_true hc2]; rfl)))) ?_
   intro n5 hn5
   refine OA.p (some 36) (.bool false) rfl rfl rfl rfl ?_
   refine OA.nil ?_
   intro _
   refine RA.rebase [(0, (.agg ⟨(cAct x)⟩)), (1, (Pt n 0 0)), (2, (.string (ByteArray.mk #[]))), (3, (.slice (some ⟨(n + 1), 0, none⟩) 7 0)), (4, (.string ((bstr (putL (u64N x.what) 1)) ++ (bstr (putL (u64N x.host) 4))))), (5, (.int .i64 1)), (28, (.bool true)), (36, (.bool false))] ⟨rfl, rfl, rfl, rfl, rfl, rfl, rfl, rfl, trivial⟩ (fun τr6 => ?_)
   refine RA.condF rfl ?_
   refine RA.skip env_ok ?_
   intro _
   refine RA.region env_ok ?_
   refine OA.p (some 37) (.string ((bstr (putL (u64N x.what) 1)) ++ (bstr (putL (u64N x.host) 4)))) rfl rfl rfl rfl ?_
   refine OA.p (some 38) (.slice (some ⟨(n + 1), 0, none⟩) 7 0) rfl rfl rfl rfl ?_
   refine OA.p (some 39) (.int .i64 1) rfl rfl rfl rfl ?_
   refine OA.p (some 40) (.pointer (some ⟨(n + 1), 1, some 0⟩)) rfl rfl rfl (r_iaS (l := 1) rfl rfl rfl rfl rfl rfl (by omega) (by omega) get_here rfl (by omega)) ?_
   refine OA.p (some 41) (.int .i64 x.a) rfl rfl rfl (r_load1 rfl rfl rfl rfl rfl get_here rfl rfl) ?_
   refine OA.p (some 42) (.int .u64 (((u64N x.a) : Nat) : Int)) rfl rfl rfl (r_cvt rfl rfl rfl rfl rfl ⟨_, rfl⟩ (wrap_u64s _)) ?_
   refine OA.callP (dst := (some 43)) (all := [(.int .u64 (((u64N x.a) : Nat) : Int)), (.int .i64 4)]) (v := (.string (bstr (putL (u64N x.a) 4)))) (hd.of (by omega) (kb2 (by omega))) rfl rfl rfl rfl rfl rfl rfl rfl (bPut 4 (u64N x.a) (by have := u64N_lt x.a; omega) (by decide)) ?_
   intro n7 hn7
   refine OA.p (some 44) (.string (((bstr (putL (u64N x.what) 1)) ++ (bstr (putL (u64N x.host) 4))) ++ (bstr (putL (u64N x.a) 4)))) rfl rfl rfl (r_cat rfl rfl rfl (by (try simp only [ByteArray.size_append, bstr_size, size_lit, List.size_toArray, List.length_cons, List.length_nil, List.length_take, List.length_drop, List.length_replicate, putL_len]); try omega)) ?_
   refine OA.p (some 4) (.string (((bstr (putL (u64N x.what) 1)) ++ (bstr (putL (u64N x.host) 4))) ++ (bstr (putL (u64N x.a) 4)))) rfl rfl rfl rfl ?_
   refine OA.nil ?_
   intro _
   refine RA.region env_ok ?_
   refine OA.p (some 29) (.int .i64 1) rfl rfl rfl rfl ?_
   refine OA.p (some 30) (.int .i64 2) rfl rfl rfl (r_bin rfl rfl rfl (b_add (i64_eq (by omega)))) ?_
   refine OA.p (some 5) (.int .i64 2) rfl rfl rfl rfl ?_
   refine OA.nil ?_
   intro _
   refine RA.unroll hd ?_
   refine RA.seq hd ?_
   refine RA.seq hd ?_
   refine RA.region env_ok ?_
   refine OA.p (some 25) (.int .i64 2) rfl rfl rfl rfl ?_
   refine OA.p (some 26) (.slice (some ⟨(n + 1), 0, none⟩) 7 0) rfl rfl rfl rfl ?_
   refine OA.p (some 27) (.int .i64 7) rfl rfl rfl rfl ?_
   refine OA.p (some 28) (.bool true) rfl rfl rfl (r_bin rfl rfl rfl (b_lss rfl)) ?_
   refine OA.nil ?_
   intro _
   refine RA.condT rfl ?_
   refine RA.skip env_ok ?_
   intro _
   refine RA.seq hd ?_
   refine RA.block ?_
   refine RA.seq hd ?_
   refine RA.seq hd ?_
   refine RA.region env_ok ?_
   refine OA.p (some 31) (.slice (some ⟨(n + 1), 0, none⟩) 7 0) rfl rfl rfl rfl ?_
   refine OA.p (some 32) (.int .i64 2) rfl rfl rfl rfl ?_
   refine OA.p (some 33) (.pointer (some ⟨(n + 1), 2, some 0⟩)) rfl rfl rfl (r_iaS (l := 2) rfl rfl rfl rfl rfl rfl (by omega) (by omega) get_here rfl (by omega)) ?_
   refine OA.p (some 34) (.int .i64 x.b) rfl rfl rfl (r_load1 rfl rfl rfl rfl rfl get_here rfl rfl) ?_
   by_cases hc3 : sm x.b
   ·
    refine OA.callP (dst := (some 35)) (all := [(.int .i64 x.b)]) (v := (.bool true)) (hd.of (by omega) (kb2 (by omega))) rfl rfl rfl rfl rfl rfl rfl rfl (PS.to (bSmall _) (show (.bool (decide (sm x.b))) = ((.bool true) : Value) from (by first | (rw [decide_eq_true hc3]; done) | (rw [decide_eq_true hc3]; rfl)))) ?_
    intro n8 hn8
    refine OA.p (some 36) (.bool false) rfl rfl rfl rfl ?_
    refine OA.nil ?_
    intro _
    refine RA.condF rfl ?_
    refine RA.skip env_ok ?_
    intro _
    refine RA.region env_ok ?_
    refine OA.p (some 37) (.string (((bstr (putL (u64N x.what) 1)) ++ (bstr (putL (u64N x.host) 4))) ++ (bstr (putL (u64N x.a) 4)))) rfl rfl rfl rfl ?_
    refine OA.p (some 38) (.slice (some ⟨(n + 1), 0, none⟩) 7 0) rfl rfl rfl rfl ?_
    refine OA.p (some 39) (.int .i64 2) rfl rfl rfl rfl ?_
    refine OA.p (some 40) (.pointer (some ⟨(n + 1), 2, some 0⟩)) rfl rfl rfl (r_iaS (l := 2) rfl rfl rfl rfl rfl rfl (by omega) (by omega) get_here rfl (by omega)) ?_
    refine OA.p (some 41) (.int .i64 x.b) rfl rfl rfl (r_load1 rfl rfl rfl rfl rfl get_here rfl rfl) ?_
    refine OA.p (some 42) (.int .u64 (((u64N x.b) : Nat) : Int)) rfl rfl rfl (r_cvt rfl rfl rfl rfl rfl ⟨_, rfl⟩ (wrap_u64s _)) ?_
    refine OA.callP (dst := (some 43)) (all := [(.int .u64 (((u64N x.b) : Nat) : Int)), (.int .i64 4)]) (v := (.string (bstr (putL (u64N x.b) 4)))) (hd.of (by omega) (kb2 (by omega))) rfl rfl rfl rfl rfl rfl rfl rfl (bPut 4 (u64N x.b) (by have := u64N_lt x.b; omega) (by decide)) ?_
    intro n9 hn9
    refine OA.p (some 44) (.string ((((bstr (putL (u64N x.what) 1)) ++ (bstr (putL (u64N x.host) 4))) ++ (bstr (putL (u64N x.a) 4))) ++ (bstr (putL (u64N x.b) 4)))) rfl rfl rfl (r_cat rfl rfl rfl (by (try simp only [ByteArray.size_append, bstr_size, size_lit, List.size_toArray, List.length_cons, List.length_nil, List.length_take, List.length_drop, List.length_replicate, putL_len]); try omega)) ?_
    refine OA.p (some 4) (.string ((((bstr (putL (u64N x.what) 1)) ++ (bstr (putL (u64N x.host) 4))) ++ (bstr (putL (u64N x.a) 4))) ++ (bstr (putL (u64N x.b) 4)))) rfl rfl rfl rfl ?_
    refine OA.nil ?_
    intro _
    refine RA.rebase [(0, (.agg ⟨(cAct x)⟩)), (1, (Pt n 0 0)), (2, (.string (ByteArray.mk #[]))), (3, (.slice (some ⟨(n + 1), 0, none⟩) 7 0)), (4, (.string ((((bstr (putL (u64N x.what) 1)) ++ (bstr (putL (u64N x.host) 4))) ++ (bstr (putL (u64N x.a) 4))) ++ (bstr (putL (u64N x.b) 4))))), (5, (.int .i64 2)), (28, (.bool true)), (36, (.bool false))] ⟨rfl, rfl, rfl, rfl, rfl, rfl, rfl, rfl, trivial⟩ (fun τr10 => ?_)
    refine RA.region env_ok ?_
    refine OA.p (some 29) (.int .i64 2) rfl rfl rfl rfl ?_
    refine OA.p (some 30) (.int .i64 3) rfl rfl rfl (r_bin rfl rfl rfl (b_add (i64_eq (by omega)))) ?_
    refine OA.p (some 5) (.int .i64 3) rfl rfl rfl rfl ?_
    refine OA.nil ?_
    intro _
    refine RA.unroll hd ?_
    refine RA.seq hd ?_
    refine RA.seq hd ?_
    refine RA.region env_ok ?_
    refine OA.p (some 25) (.int .i64 3) rfl rfl rfl rfl ?_
    refine OA.p (some 26) (.slice (some ⟨(n + 1), 0, none⟩) 7 0) rfl rfl rfl rfl ?_
    refine OA.p (some 27) (.int .i64 7) rfl rfl rfl rfl ?_
    refine OA.p (some 28) (.bool true) rfl rfl rfl (r_bin rfl rfl rfl (b_lss rfl)) ?_
    refine OA.nil ?_
    intro _
    refine RA.condT rfl ?_
    refine RA.skip env_ok ?_
    intro _
    refine RA.seq hd ?_
    refine RA.block ?_
    refine RA.seq hd ?_
    refine RA.seq hd ?_
    refine RA.region env_ok ?_
    refine OA.p (some 31) (.slice (some ⟨(n + 1), 0, none⟩) 7 0) rfl rfl rfl rfl ?_
    refine OA.p (some 32) (.int .i64 3) rfl rfl rfl rfl ?_
    refine OA.p (some 33) (.pointer (some ⟨(n + 1), 3, some 0⟩)) rfl rfl rfl (r_iaS (l := 3) rfl rfl rfl rfl rfl rfl (by omega) (by omega) get_here rfl (by omega)) ?_
    refine OA.p (some 34) (.int .i64 x.c) rfl rfl rfl (r_load1 rfl rfl rfl rfl rfl get_here rfl rfl) ?_
    by_cases hc4 : sm x.c
    ·
     refine OA.callP (dst := (some 35)) (all := [(.int .i64 x.c)]) (v := (.bool true)) (hd.of (by omega) (kb2 (by omega))) rfl rfl rfl rfl rfl rfl rfl rfl (PS.to (bSmall _) (show (.bool (decide (sm x.c))) = ((.bool true) : Value) from (by first | (rw [decide_eq_true hc4]; done) | (rw [decide_eq_true hc4]; rfl)))) ?_
     intro n11 hn11
     refine OA.p (some 36) (.bool false) rfl rfl rfl rfl ?_
     refine OA.nil ?_
     intro _
     refine RA.condF rfl ?_
     refine RA.skip env_ok ?_
     intro _
     refine RA.region env_ok ?_
     refine OA.p (some 37) (.string ((((bstr (putL (u64N x.what) 1)) ++ (bstr (putL (u64N x.host) 4))) ++ (bstr (putL (u64N x.a) 4))) ++ (bstr (putL (u64N x.b) 4)))) rfl rfl rfl rfl ?_
     refine OA.p (some 38) (.slice (some ⟨(n + 1), 0, none⟩) 7 0) rfl rfl rfl rfl ?_
     refine OA.p (some 39) (.int .i64 3) rfl rfl rfl rfl ?_
     refine OA.p (some 40) (.pointer (some ⟨(n + 1), 3, some 0⟩)) rfl rfl rfl (r_iaS (l := 3) rfl rfl rfl rfl rfl rfl (by omega) (by omega) get_here rfl (by omega)) ?_
     refine OA.p (some 41) (.int .i64 x.c) rfl rfl rfl (r_load1 rfl rfl rfl rfl rfl get_here rfl rfl) ?_
     refine OA.p (some 42) (.int .u64 (((u64N x.c) : Nat) : Int)) rfl rfl rfl (r_cvt rfl rfl rfl rfl rfl ⟨_, rfl⟩ (wrap_u64s _)) ?_
     refine OA.callP (dst := (some 43)) (all := [(.int .u64 (((u64N x.c) : Nat) : Int)), (.int .i64 4)]) (v := (.string (bstr (putL (u64N x.c) 4)))) (hd.of (by omega) (kb2 (by omega))) rfl rfl rfl rfl rfl rfl rfl rfl (bPut 4 (u64N x.c) (by have := u64N_lt x.c; omega) (by decide)) ?_
     intro n12 hn12
     refine OA.p (some 44) (.string (((((bstr (putL (u64N x.what) 1)) ++ (bstr (putL (u64N x.host) 4))) ++ (bstr (putL (u64N x.a) 4))) ++ (bstr (putL (u64N x.b) 4))) ++ (bstr (putL (u64N x.c) 4)))) rfl rfl rfl (r_cat rfl rfl rfl (by (try simp only [ByteArray.size_append, bstr_size, size_lit, List.size_toArray, List.length_cons, List.length_nil, List.length_take, List.length_drop, List.length_replicate, putL_len]); try omega)) ?_
     refine OA.p (some 4) (.string (((((bstr (putL (u64N x.what) 1)) ++ (bstr (putL (u64N x.host) 4))) ++ (bstr (putL (u64N x.a) 4))) ++ (bstr (putL (u64N x.b) 4))) ++ (bstr (putL (u64N x.c) 4)))) rfl rfl rfl rfl ?_
     refine OA.nil ?_
     intro _
     refine RA.region env_ok ?_
     refine OA.p (some 29) (.int .i64 3) rfl rfl rfl rfl ?_
     refine OA.p (some 30) (.int .i64 4) rfl rfl rfl (r_bin rfl rfl rfl (b_add (i64_eq (by omega)))) ?_
     refine OA.p (some 5) (.int .i64 4) rfl rfl rfl rfl ?_
     refine OA.nil ?_
     intro _
     refine RA.unroll hd ?_
     refine RA.seq hd ?_
     refine RA.seq hd ?_
     refine RA.region env_ok ?_
     refine OA.p (some 25) (.int .i64 4) rfl rfl rfl rfl ?_
     refine OA.p (some 26) (.slice (some ⟨(n + 1), 0, none⟩) 7 0) rfl rfl rfl rfl ?_
     refine OA.p (some 27) (.int .i64 7) rfl rfl rfl rfl ?_
     refine OA.p (some 28) (.bool true) rfl rfl rfl (r_bin rfl rfl rfl (b_lss rfl)) ?_
     refine OA.nil ?_
     intro _
     refine RA.rebase [(0, (.agg ⟨(cAct x)⟩)), (1, (Pt n 0 0)), (2, (.string (ByteArray.mk #[]))), (3, (.slice (some ⟨(n + 1), 0, none⟩) 7 0)), (4, (.string (((((bstr (putL (u64N x.what) 1)) ++ (bstr (putL (u64N x.host) 4))) ++ (bstr (putL (u64N x.a) 4))) ++ (bstr (putL (u64N x.b) 4))) ++ (bstr (putL (u64N x.c) 4))))), (5, (.int .i64 4)), (28, (.bool true)), (36, (.bool false))] ⟨rfl, rfl, rfl, rfl, rfl, rfl, rfl, rfl, trivial⟩ (fun τr13 => ?_)
     refine RA.condT rfl ?_
     refine RA.skip env_ok ?_
     intro _
     refine RA.seq hd ?_
     refine RA.block ?_
     refine RA.seq hd ?_
     refine RA.seq hd ?_
     refine RA.region env_ok ?_
     refine OA.p (some 31) (.slice (some ⟨(n + 1), 0, none⟩) 7 0) rfl rfl rfl rfl ?_
     refine OA.p (some 32) (.int .i64 4) rfl rfl rfl rfl ?_
     refine OA.p (some 33) (.pointer (some ⟨(n + 1), 4, some 0⟩)) rfl rfl rfl (r_iaS (l := 4) rfl rfl rfl rfl rfl rfl (by omega) (by omega) get_here rfl (by omega)) ?_
     refine OA.p (some 34) (.int .i64 x.d) rfl rfl rfl (r_load1 rfl rfl rfl rfl rfl get_here rfl rfl) ?_
     by_cases hc5 : sm x.d
     ·
      refine OA.callP (dst := (some 35)) (all := [(.int .i64 x.d)]) (v := (.bool true)) (hd.of (by omega) (kb2 (by omega))) rfl rfl rfl rfl rfl rfl rfl rfl (PS.to (bSmall _) (show (.bool (decide (sm x.d))) = ((.bool true) : Value) from (by first | (rw [decide_eq_true hc5]; done) | (rw [decide_eq_true hc5]; rfl)))) ?_
      intro n14 hn14
      refine OA.p (some 36) (.bool false) rfl rfl rfl rfl ?_
      refine OA.nil ?_
      intro _
      refine RA.condF rfl ?_
      refine RA.skip env_ok ?_
      intro _
      refine RA.region env_ok ?_
      refine OA.p (some 37) (.string (((((bstr (putL (u64N x.what) 1)) ++ (bstr (putL (u64N x.host) 4))) ++ (bstr (putL (u64N x.a) 4))) ++ (bstr (putL (u64N x.b) 4))) ++ (bstr (putL (u64N x.c) 4)))) rfl rfl rfl rfl ?_
      refine OA.p (some 38) (.slice (some ⟨(n + 1), 0, none⟩) 7 0) rfl rfl rfl rfl ?_
      refine OA.p (some 39) (.int .i64 4) rfl rfl rfl rfl ?_
      refine OA.p (some 40) (.pointer (some ⟨(n + 1), 4, some 0⟩)) rfl rfl rfl (r_iaS (l := 4) rfl rfl rfl rfl rfl rfl (by omega) (by omega) get_here rfl (by omega)) ?_
      refine OA.p (some 41) (.int .i64 x.d) rfl rfl rfl (r_load1 rfl rfl rfl rfl rfl get_here rfl rfl) ?_
      refine OA.p (some 42) (.int .u64 (((u64N x.d) : Nat) : Int)) rfl rfl rfl (r_cvt rfl rfl rfl rfl rfl ⟨_, rfl⟩ (wrap_u64s _)) ?_
      refine OA.callP (dst := (some 43)) (all := [(.int .u64 (((u64N x.d) : Nat) : Int)), (.int .i64 4)]) (v := (.string (bstr (putL (u64N x.d) 4)))) (hd.of (by omega) (kb2 (by omega))) rfl rfl rfl rfl rfl rfl rfl rfl (bPut 4 (u64N x.d) (by have := u64N_lt x.d; omega) (by decide)) ?_
      intro n15 hn15
      refine OA.p (some 44) (.string ((((((bstr (putL (u64N x.what) 1)) ++ (bstr (putL (u64N x.host) 4))) ++ (bstr (putL (u64N x.a) 4))) ++ (bstr (putL (u64N x.b) 4))) ++ (bstr (putL (u64N x.c) 4))) ++ (bstr (putL (u64N x.d) 4)))) rfl rfl rfl (r_cat rfl rfl rfl (by (try simp only [ByteArray.size_append, bstr_size, size_lit, List.size_toArray, List.length_cons, List.length_nil, List.length_take, List.length_drop, List.length_replicate, putL_len]); try omega)) ?_
      refine OA.p (some 4) (.string ((((((bstr (putL (u64N x.what) 1)) ++ (bstr (putL (u64N x.host) 4))) ++ (bstr (putL (u64N x.a) 4))) ++ (bstr (putL (u64N x.b) 4))) ++ (bstr (putL (u64N x.c) 4))) ++ (bstr (putL (u64N x.d) 4)))) rfl rfl rfl rfl ?_
      refine OA.nil ?_
      intro _
      refine RA.region env_ok ?_
      refine OA.p (some 29) (.int .i64 4) rfl rfl rfl rfl ?_
      refine OA.p (some 30) (.int .i64 5) rfl rfl rfl (r_bin rfl rfl rfl (b_add (i64_eq (by omega)))) ?_
      refine OA.p (some 5) (.int .i64 5) rfl rfl rfl rfl ?_
      refine OA.nil ?_
      intro _
      refine RA.unroll hd ?_
      refine RA.seq hd ?_
      refine RA.seq hd ?_
      refine RA.region env_ok ?_
      refine OA.p (some 25) (.int .i64 5) rfl rfl rfl rfl ?_
      refine OA.p (some 26) (.slice (some ⟨(n + 1), 0, none⟩) 7 0) rfl rfl rfl rfl ?_
      refine OA.p (some 27) (.int .i64 7) rfl rfl rfl rfl ?_
      refine OA.p (some 28) (.bool true) rfl rfl rfl (r_bin rfl rfl rfl (b_lss rfl)) ?_
      refine OA.nil ?_
      intro _
      refine RA.condT rfl ?_
      refine RA.skip env_ok ?_
      intro _
      refine RA.seq hd ?_
      refine RA.block ?_
      refine RA.seq hd ?_
      refine RA.seq hd ?_
      refine RA.region env_ok ?_
      refine OA.p (some 31) (.slice (some ⟨(n + 1), 0, none⟩) 7 0) rfl rfl rfl rfl ?_
      refine OA.p (some 32) (.int .i64 5) rfl rfl rfl rfl ?_
      refine OA.p (some 33) (.pointer (some ⟨(n + 1), 5, some 0⟩)) rfl rfl rfl (r_iaS (l := 5) rfl rfl rfl rfl rfl rfl (by omega) (by omega) get_here rfl (by omega)) ?_
      refine OA.p (some 34) (.int .i64 x.e) rfl rfl rfl (r_load1 rfl rfl rfl rfl rfl get_here rfl rfl) ?_
      by_cases hc6 : sm x.e
      ·
       refine OA.callP (dst := (some 35)) (all := [(.int .i64 x.e)]) (v := (.bool true)) (hd.of (by omega) (kb2 (by omega))) rfl rfl rfl rfl rfl rfl rfl rfl (PS.to (bSmall _) (show (.bool (decide (sm x.e))) = ((.bool true) : Value) from (by first | (rw [decide_eq_true hc6]; done) | (rw [decide_eq_true hc6]; rfl)))) ?_
       intro n16 hn16
       refine OA.p (some 36) (.bool false) rfl rfl rfl rfl ?_
       refine OA.nil ?_
       intro _
       refine RA.rebase [(0, (.agg ⟨(cAct x)⟩)), (1, (Pt n 0 0)), (2, (.string (ByteArray.mk #[]))), (3, (.slice (some ⟨(n + 1), 0, none⟩) 7 0)), (4, (.string ((((((bstr (putL (u64N x.what) 1)) ++ (bstr (putL (u64N x.host) 4))) ++ (bstr (putL (u64N x.a) 4))) ++ (bstr (putL (u64N x.b) 4))) ++ (bstr (putL (u64N x.c) 4))) ++ (bstr (putL (u64N x.d) 4))))), (5, (.int .i64 5)), (28, (.bool true)), (36, (.bool false))] ⟨rfl, rfl, rfl, rfl, rfl, rfl, rfl, rfl, trivial⟩ (fun τr17 => ?_)
       refine RA.condF rfl ?_
       refine RA.skip env_ok ?_
       intro _
       refine RA.region env_ok ?_
       refine OA.p (some 37) (.string ((((((bstr (putL (u64N x.what) 1)) ++ (bstr (putL (u64N x.host) 4))) ++ (bstr (putL (u64N x.a) 4))) ++ (bstr (putL (u64N x.b) 4))) ++ (bstr (putL (u64N x.c) 4))) ++ (bstr (putL (u64N x.d) 4)))) rfl rfl rfl rfl ?_
       refine OA.p (some 38) (.slice (some ⟨(n + 1), 0, none⟩) 7 0) rfl rfl rfl rfl ?_
       refine OA.p (some 39) (.int .i64 5) rfl rfl rfl rfl ?_
       refine OA.p (some 40) (.pointer (some ⟨(n + 1), 5, some 0⟩)) rfl rfl rfl (r_iaS (l := 5) rfl rfl rfl rfl rfl rfl (by omega) (by omega) get_here rfl (by omega)) ?_
       refine OA.p (some 41) (.int .i64 x.e) rfl rfl rfl (r_load1 rfl rfl rfl rfl rfl get_here rfl rfl) ?_
       refine OA.p (some 42) (.int .u64 (((u64N x.e) : Nat) : Int)) rfl rfl rfl (r_cvt rfl rfl rfl rfl rfl ⟨_, rfl⟩ (wrap_u64s _)) ?_
       refine OA.callP (dst := (some 43)) (all := [(.int .u64 (((u64N x.e) : Nat) : Int)), (.int .i64 4)]) (v := (.string (bstr (putL (u64N x.e) 4)))) (hd.of (by omega) (kb2 (by omega))) rfl rfl rfl rfl rfl rfl rfl rfl (bPut 4 (u64N x.e) (by have := u64N_lt x.e; omega) (by decide)) ?_
       intro n18 hn18
       refine OA.p (some 44) (.string (((((((bstr (putL (u64N x.what) 1)) ++ (bstr (putL (u64N x.host) 4))) ++ (bstr (putL (u64N x.a) 4))) ++ (bstr (putL (u64N x.b) 4))) ++ (bstr (putL (u64N x.c) 4))) ++ (bstr (putL (u64N x.d) 4))) ++ (bstr (putL (u64N x.e) 4)))) rfl rfl rfl (r_cat rfl rfl rfl (by (try simp only [ByteArray.size_append, bstr_size, size_lit, List.size_toArray, List.length_cons, List.length_nil, List.length_take, List.length_drop, List.length_replicate, putL_len]); try omega)) ?_
       refine OA.p (some 4) (.string (((((((bstr (putL (u64N x.what) 1)) ++ (bstr (putL (u64N x.host) 4))) ++ (bstr (putL (u64N x.a) 4))) ++ (bstr (putL (u64N x.b) 4))) ++ (bstr (putL (u64N x.c) 4))) ++ (bstr (putL (u64N x.d) 4))) ++ (bstr (putL (u64N x.e) 4)))) rfl rfl rfl rfl ?_
       refine OA.nil ?_
       intro _
       refine RA.region env_ok ?_
       refine OA.p (some 29) (.int .i64 5) rfl rfl rfl rfl ?_
       refine OA.p (some 30) (.int .i64 6) rfl rfl rfl (r_bin rfl rfl rfl (b_add (i64_eq (by omega)))) ?_
       refine OA.p (some 5) (.int .i64 6) rfl rfl rfl rfl ?_
       refine OA.nil ?_
       intro _
       refine RA.unroll hd ?_
       refine RA.seq hd ?_
       refine RA.seq hd ?_
       refine RA.region env_ok ?_
       refine OA.p (some 25) (.int .i64 6) rfl rfl rfl rfl ?_
       refine OA.p (some 26) (.slice (some ⟨(n + 1), 0, none⟩) 7 0) rfl rfl rfl rfl ?_
       refine OA.p (some 27) (.int .i64 7) rfl rfl rfl rfl ?_
       refine OA.p (some 28) (.bool true) rfl rfl rfl (r_bin rfl rfl rfl (b_lss rfl)) ?_
       refine OA.nil ?_
       intro _
       refine RA.condT rfl ?_
       refine RA.skip env_ok ?_
       intro _
       refine RA.seq hd ?_
       refine RA.block ?_
       refine RA.seq hd ?_
       refine RA.seq hd ?_
       refine RA.region env_ok ?_
       refine OA.p (some 31) (.slice (some ⟨(n + 1), 0, none⟩) 7 0) rfl rfl rfl rfl ?_
       refine OA.p (some 32) (.int .i64 6) rfl rfl rfl rfl ?_
       refine OA.p (some 33) (.pointer (some ⟨(n + 1), 6, some 0⟩)) rfl rfl rfl (r_iaS (l := 6) rfl rfl rfl rfl rfl rfl (by omega) (by omega) get_here rfl (by omega)) ?_
       refine OA.p (some 34) (.int .i64 x.f) rfl rfl rfl (r_load1 rfl rfl rfl rfl rfl get_here rfl rfl) ?_
       by_cases hc7 : sm x.f
       ·
        refine OA.callP (dst := (some 35)) (all := [(.int .i64 x.f)]) (v := (.bool true)) (hd.of (by omega) (kb2 (by omega))) rfl rfl rfl rfl rfl rfl rfl rfl (PS.to (bSmall _) (show (.bool (decide (sm x.f))) = ((.bool true) : Value) from (by first | (rw [decide_eq_true hc7]; done) | (rw [decide_eq_true hc7]; rfl)))) ?_
        intro n19 hn19
        refine OA.p (some 36) (.bool false) rfl rfl rfl rfl ?_
        refine OA.nil ?_
        intro _
        refine RA.condF rfl ?_
        refine RA.skip env_ok ?_
        intro _
        refine RA.region env_ok ?_
        refine OA.p (some 37) (.string (((((((bstr (putL (u64N x.what) 1)) ++ (bstr (putL (u64N x.host) 4))) ++ (bstr (putL (u64N x.a) 4))) ++ (bstr (putL (u64N x.b) 4))) ++ (bstr (putL (u64N x.c) 4))) ++ (bstr (putL (u64N x.d) 4))) ++ (bstr (putL (u64N x.e) 4)))) rfl rfl rfl rfl ?_
        refine OA.p (some 38) (.slice (some ⟨(n + 1), 0, none⟩) 7 0) rfl rfl rfl rfl ?_
        refine OA.p (some 39) (.int .i64 6) rfl rfl rfl rfl ?_
        refine OA.p (some 40) (.pointer (some ⟨(n + 1), 6, some 0⟩)) rfl rfl rfl (r_iaS (l := 6) rfl rfl rfl rfl rfl rfl (by omega) (by omega) get_here rfl (by omega)) ?_
        refine OA.p (some 41) (.int .i64 x.f) rfl rfl rfl (r_load1 rfl rfl rfl rfl rfl get_here rfl rfl) ?_
        refine OA.p (some 42) (.int .u64 (((u64N x.f) : Nat) : Int)) rfl rfl rfl (r_cvt rfl rfl rfl rfl rfl ⟨_, rfl⟩ (wrap_u64s _)) ?_
        refine OA.callP (dst := (some 43)) (all := [(.int .u64 (((u64N x.f) : Nat) : Int)), (.int .i64 4)]) (v := (.string (bstr (putL (u64N x.f) 4)))) (hd.of (by omega) (kb2 (by omega))) rfl rfl rfl rfl rfl rfl rfl rfl (bPut 4 (u64N x.f) (by have := u64N_lt x.f; omega) (by decide)) ?_
        intro n20 hn20
        refine OA.p (some 44) (.string ((((((((bstr (putL (u64N x.what) 1)) ++ (bstr (putL (u64N x.host) 4))) ++ (bstr (putL (u64N x.a) 4))) ++ (bstr (putL (u64N x.b) 4))) ++ (bstr (putL (u64N x.c) 4))) ++ (bstr (putL (u64N x.d) 4))) ++ (bstr (putL (u64N x.e) 4))) ++ (bstr (putL (u64N x.f) 4)))) rfl rfl rfl (r_cat rfl rfl rfl (by (try simp only [ByteArray.size_append, bstr_size, size_lit, List.size_toArray, List.length_cons, List.length_nil, List.length_take, List.length_drop, List.length_replicate, putL_len]); try omega)) ?_
        refine OA.p (some 4) (.string ((((((((bstr (putL (u64N x.what) 1)) ++ (bstr (putL (u64N x.host) 4))) ++ (bstr (putL (u64N x.a) 4))) ++ (bstr (putL (u64N x.b) 4))) ++ (bstr (putL (u64N x.c) 4))) ++ (bstr (putL (u64N x.d) 4))) ++ (bstr (putL (u64N x.e) 4))) ++ (bstr (putL (u64N x.f) 4)))) rfl rfl rfl rfl ?_
        refine OA.nil ?_
        intro _
        refine RA.rebase [(0, (.agg ⟨(cAct x)⟩)), (1, (Pt n 0 0)), (2, (.string (ByteArray.mk #[]))), (3, (.slice (some ⟨(n + 1), 0, none⟩) 7 0)), (4, (.string ((((((((bstr (putL (u64N x.what) 1)) ++ (bstr (putL (u64N x.host) 4))) ++ (bstr (putL (u64N x.a) 4))) ++ (bstr (putL (u64N x.b) 4))) ++ (bstr (putL (u64N x.c) 4))) ++ (bstr (putL (u64N x.d) 4))) ++ (bstr (putL (u64N x.e) 4))) ++ (bstr (putL (u64N x.f) 4))))), (5, (.int .i64 6)), (28, (.bool true)), (36, (.bool false))] ⟨rfl, rfl, rfl, rfl, rfl, rfl, rfl, rfl, trivial⟩ (fun τr21 => ?_)
        refine RA.region env_ok ?_
        refine OA.p (some 29) (.int .i64 6) rfl rfl rfl rfl ?_
        refine OA.p (some 30) (.int .i64 7) rfl rfl rfl (r_bin rfl rfl rfl (b_add (i64_eq (by omega)))) ?_
        refine OA.p (some 5) (.int .i64 7) rfl rfl rfl rfl ?_
        refine OA.nil ?_
        intro _
        refine RA.unroll hd ?_
        refine RA.seq hd ?_
        refine RA.seq hd ?_
        refine RA.region env_ok ?_
        refine OA.p (some 25) (.int .i64 7) rfl rfl rfl rfl ?_
        refine OA.p (some 26) (.slice (some ⟨(n + 1), 0, none⟩) 7 0) rfl rfl rfl rfl ?_
        refine OA.p (some 27) (.int .i64 7) rfl rfl rfl rfl ?_
        refine OA.p (some 28) (.bool false) rfl rfl rfl (r_bin rfl rfl rfl (b_lss rfl)) ?_
        refine OA.nil ?_
        intro _
        refine RA.condF rfl ?_
        refine RA.exit env_ok ?_
        intro _
        refine RA.seq hd ?_
        refine RA.seq hd ?_
        refine RA.region env_ok ?_
        refine OA.p (some 45) (Pt n 0 0) rfl rfl rfl rfl ?_
        refine OA.p (some 46) (.int .i64 x.what) rfl rfl rfl (r_load1 rfl rfl rfl rfl rfl (get_there (by omega) get_here) rfl rfl) ?_
        by_cases hc8 : x.what < 0
        ·
         refine OA.p (some 47) (.bool true) rfl rfl rfl (Eq.trans (r_bin rfl rfl rfl (b_lss rfl)) (dT hc8)) ?_
         refine OA.p (some 48) (.bool true) rfl rfl rfl rfl ?_
         refine OA.off (dst := (some 49)) rfl rfl rfl ?_
         refine OA.off (dst := (some 50)) rfl rfl rfl ?_
         refine OA.off (dst := (some 51)) rfl rfl rfl ?_
         refine OA.p (some 52) (.bool true) rfl rfl rfl rfl ?_
         refine OA.p (some 53) (.bool true) rfl rfl rfl rfl ?_
         refine OA.off (dst := (some 54)) rfl rfl rfl ?_
         refine OA.off (dst := (some 55)) rfl rfl rfl ?_
         refine OA.off (dst := (some 56)) rfl rfl rfl ?_
         refine OA.off (dst := (some 57)) rfl rfl rfl ?_
         refine OA.p (some 58) (.bool true) rfl rfl rfl rfl ?_
         refine OA.nil ?_
         intro _
         refine RA.condT rfl ?_
         refine RA.seq hd ?_
         refine RA.region env_ok ?_
         refine OA.p (some 2) (.string (ByteArray.mk #[])) rfl rfl rfl rfl ?_
         refine OA.nil ?_
         intro _
         refine RA.ret env_ok ?_
         refine ⟨.inr rfl, [(.string (ByteArray.mk #[]))], (resL_cons rfl resL_nil), (congrArg Value.string (actF_f (fun hh => by have h8 := hh.2.2.2.2.2.2.2.1; have h9 := hh.2.2.2.2.2.2.2.2.1; have h10 := hh.2.2.2.2.2.2.2.2.2; clear hsz hh; omega)).symm), (kc2 (by omega))⟩
        ·
         refine OA.p (some 47) (.bool false) rfl rfl rfl (Eq.trans (r_bin rfl rfl rfl (b_lss rfl)) (dF hc8)) ?_
         refine OA.p (some 48) (.bool false) rfl rfl rfl rfl ?_
         refine OA.p (some 49) (Pt n 0 0) rfl rfl rfl rfl ?_
         refine OA.p (some 50) (.int .i64 x.what) rfl rfl rfl (r_load1 rfl rfl rfl rfl rfl (get_there (by omega) get_here) rfl rfl) ?_
         by_cases hc9 : 255 < x.what
         ·
          refine OA.p (some 51) (.bool true) rfl rfl rfl (Eq.trans (r_bin rfl rfl rfl (b_gtr rfl)) (dT hc9)) ?_
          refine OA.p (some 52) (.bool true) rfl rfl rfl rfl ?_
          refine OA.p (some 53) (.bool true) rfl rfl rfl rfl ?_
          refine OA.off (dst := (some 54)) rfl rfl rfl ?_
          refine OA.off (dst := (some 55)) rfl rfl rfl ?_
          refine OA.off (dst := (some 56)) rfl rfl rfl ?_
          refine OA.off (dst := (some 57)) rfl rfl rfl ?_
          refine OA.p (some 58) (.bool true) rfl rfl rfl rfl ?_
          refine OA.nil ?_
          intro _
          refine RA.condT rfl ?_
          refine RA.seq hd ?_
          refine RA.region env_ok ?_
          refine OA.p (some 2) (.string (ByteArray.mk #[])) rfl rfl rfl rfl ?_
          refine OA.nil ?_
          intro _
          refine RA.ret env_ok ?_
          refine ⟨.inr rfl, [(.string (ByteArray.mk #[]))], (resL_cons rfl resL_nil), (congrArg Value.string (actF_f (fun hh => by have h8 := hh.2.2.2.2.2.2.2.1; have h9 := hh.2.2.2.2.2.2.2.2.1; have h10 := hh.2.2.2.2.2.2.2.2.2; clear hsz hh; omega)).symm), (kc2 (by omega))⟩
         ·
          refine OA.p (some 51) (.bool false) rfl rfl rfl (Eq.trans (r_bin rfl rfl rfl (b_gtr rfl)) (dF hc9)) ?_
          refine OA.p (some 52) (.bool false) rfl rfl rfl rfl ?_
          refine OA.p (some 53) (.bool false) rfl rfl rfl rfl ?_
          refine OA.p (some 54) (Pt n 0 8) rfl rfl rfl rfl ?_
          refine OA.p (some 55) (.string x.s) rfl rfl rfl (r_load1 rfl rfl rfl rfl rfl (get_there (by omega) get_here) rfl rfl) ?_
          refine OA.p (some 56) (.int .i64 ((x.s.size : Nat) : Int)) rfl rfl rfl rfl ?_
          by_cases hc10 : 65535 < ((x.s.size : Nat) : Int)
          ·
           refine OA.p (some 57) (.bool true) rfl rfl rfl (Eq.trans (r_bin rfl rfl rfl (b_gtr rfl)) (dT hc10)) ?_
           refine OA.p (some 58) (.bool true) rfl rfl rfl rfl ?_
           refine OA.nil ?_
           intro _
           refine RA.condT rfl ?_
           refine RA.seq hd ?_
           refine RA.region env_ok ?_
           refine OA.p (some 2) (.string (ByteArray.mk #[])) rfl rfl rfl rfl ?_
           refine OA.nil ?_
           intro _
           refine RA.ret env_ok ?_
           refine ⟨.inr rfl, [(.string (ByteArray.mk #[]))], (resL_cons rfl resL_nil), (congrArg Value.string (actF_f (fun hh => by have h8 := hh.2.2.2.2.2.2.2.1; have h9 := hh.2.2.2.2.2.2.2.2.1; have h10 := hh.2.2.2.2.2.2.2.2.2; clear hsz hh; omega)).symm), (kc2 (by omega))⟩
          ·
           refine OA.p (some 57) (.bool false) rfl rfl rfl (Eq.trans (r_bin rfl rfl rfl (b_gtr rfl)) (dF hc10)) ?_
           refine OA.p (some 58) (.bool false) rfl rfl rfl rfl ?_
           refine OA.nil ?_
           intro _
           refine RA.condF rfl ?_
           refine RA.skip env_ok ?_
           intro _
           refine RA.seq hd ?_
           refine RA.par (md := [some [], some [], some [n], some [], some [], some [], some [], some [], some [n], some [], some []]) env_ok (hd.of (by omega) (kb2 (by omega))) (by kernel_rfl) ?_
           refine PQ.pure (dst := (some 59)) (v := (.string ((((((((bstr (putL (u64N x.what) 1)) ++ (bstr (putL (u64N x.host) 4))) ++ (bstr (putL (u64N x.a) 4))) ++ (bstr (putL (u64N x.b) 4))) ++ (bstr (putL (u64N x.c) 4))) ++ (bstr (putL (u64N x.d) 4))) ++ (bstr (putL (u64N x.e) 4))) ++ (bstr (putL (u64N x.f) 4))))) rfl rfl rfl noStore (none_ok _ _) rfl ?_
           refine PQ.pure (dst := (some 60)) (v := (Pt n 0 8)) rfl rfl rfl noStore (none_ok _ _) rfl ?_
           refine PQ.pure (dst := (some 61)) (v := (.string x.s)) rfl rfl rfl (app [(n, some ⟨[(cAct x)], 9, 24, true⟩)] noStore) (seen_one (V := []) (D := [((n + 1), some ⟨[[(.int .i64 x.host)], [(.int .i64 x.a)], [(.int .i64 x.b)], [(.int .i64 x.c)], [(.int .i64 x.d)], [(.int .i64 x.e)], [(.int .i64 x.f)]], 1, 3, true⟩), (n, some ⟨[(cAct x)], 9, 24, true⟩)]) (by kernel_rfl) (get_there (by omega) get_here)) (r_load1 rfl rfl rfl rfl rfl get_here rfl rfl) ?_
           refine PQ.pure (dst := (some 62)) (v := (.int .i64 ((x.s.size : Nat) : Int))) rfl rfl rfl noStore (none_ok _ _) rfl ?_
           refine PQ.pure (dst := (some 63)) (v := (.int .u64 ((x.s.size : Nat) : Int))) rfl rfl rfl noStore (none_ok _ _) (r_cvt rfl rfl rfl rfl rfl ⟨_, rfl⟩ (u64_eq (by omega))) ?_
           refine PQ.callP (dst := (some 64)) (all := [(.int .u64 ((x.s.size : Nat) : Int)), (.int .i64 2)]) (v := (.string (bstr (putL x.s.size 2)))) noStore (dom_none _) rfl rfl rfl rfl rfl rfl rfl rfl (none_ok _ _) (bPut 2 x.s.size (by have := hsz; omega) (by decide)) ?_
           intro n22 hn22
           refine PQ.pure (dst := (some 65)) (v := (.string (((((((((bstr (putL (u64N x.what) 1)) ++ (bstr (putL (u64N x.host) 4))) ++ (bstr (putL (u64N x.a) 4))) ++ (bstr (putL (u64N x.b) 4))) ++ (bstr (putL (u64N x.c) 4))) ++ (bstr (putL (u64N x.d) 4))) ++ (bstr (putL (u64N x.e) 4))) ++ (bstr (putL (u64N x.f) 4))) ++ (bstr (putL x.s.size 2))))) rfl rfl rfl noStore (none_ok _ _) (r_cat rfl rfl rfl (by (try simp only [ByteArray.size_append, bstr_size, size_lit, List.size_toArray, List.length_cons, List.length_nil, List.length_take, List.length_drop, List.length_replicate, putL_len]); try omega)) ?_
           refine PQ.pure (dst := (some 66)) (v := (Pt n 0 8)) rfl rfl rfl noStore (none_ok _ _) rfl ?_
           refine PQ.pure (dst := (some 67)) (v := (.string x.s)) rfl rfl rfl (app [(n, some ⟨[(cAct x)], 9, 24, true⟩)] noStore) (seen_one (V := []) (D := [((n + 1), some ⟨[[(.int .i64 x.host)], [(.int .i64 x.a)], [(.int .i64 x.b)], [(.int .i64 x.c)], [(.int .i64 x.d)], [(.int .i64 x.e)], [(.int .i64 x.f)]], 1, 3, true⟩), (n, some ⟨[(cAct x)], 9, 24, true⟩)]) (by kernel_rfl) (get_there (by omega) get_here)) (r_load1 rfl rfl rfl rfl rfl get_here rfl rfl) ?_
           refine PQ.pure (dst := (some 68)) (v := (.string ((((((((((bstr (putL (u64N x.what) 1)) ++ (bstr (putL (u64N x.host) 4))) ++ (bstr (putL (u64N x.a) 4))) ++ (bstr (putL (u64N x.b) 4))) ++ (bstr (putL (u64N x.c) 4))) ++ (bstr (putL (u64N x.d) 4))) ++ (bstr (putL (u64N x.e) 4))) ++ (bstr (putL (u64N x.f) 4))) ++ (bstr (putL x.s.size 2))) ++ x.s))) rfl rfl rfl noStore (none_ok _ _) (r_cat rfl rfl rfl (by (try simp only [ByteArray.size_append, bstr_size, size_lit, List.size_toArray, List.length_cons, List.length_nil, List.length_take, List.length_drop, List.length_replicate, putL_len]); try omega)) ?_
           refine PQ.pure (dst := (some 2)) (v := (.string ((((((((((bstr (putL (u64N x.what) 1)) ++ (bstr (putL (u64N x.host) 4))) ++ (bstr (putL (u64N x.a) 4))) ++ (bstr (putL (u64N x.b) 4))) ++ (bstr (putL (u64N x.c) 4))) ++ (bstr (putL (u64N x.d) 4))) ++ (bstr (putL (u64N x.e) 4))) ++ (bstr (putL (u64N x.f) 4))) ++ (bstr (putL x.s.size 2))) ++ x.s))) rfl rfl rfl noStore (none_ok _ _) rfl ?_
           refine PQ.done (d := []) (by kernel_rfl) ?_
           intro _
           refine RA.rebase [(0, (.agg ⟨(cAct x)⟩)), (1, (Pt n 0 0)), (2, (.string ((((((((((bstr (putL (u64N x.what) 1)) ++ (bstr (putL (u64N x.host) 4))) ++ (bstr (putL (u64N x.a) 4))) ++ (bstr (putL (u64N x.b) 4))) ++ (bstr (putL (u64N x.c) 4))) ++ (bstr (putL (u64N x.d) 4))) ++ (bstr (putL (u64N x.e) 4))) ++ (bstr (putL (u64N x.f) 4))) ++ (bstr (putL x.s.size 2))) ++ x.s))), (3, (.slice (some ⟨(n + 1), 0, none⟩) 7 0)), (4, (.string ((((((((bstr (putL (u64N x.what) 1)) ++ (bstr (putL (u64N x.host) 4))) ++ (bstr (putL (u64N x.a) 4))) ++ (bstr (putL (u64N x.b) 4))) ++ (bstr (putL (u64N x.c) 4))) ++ (bstr (putL (u64N x.d) 4))) ++ (bstr (putL (u64N x.e) 4))) ++ (bstr (putL (u64N x.f) 4))))), (5, (.int .i64 7)), (28, (.bool false)), (36, (.bool false)), (58, (.bool false))] ⟨rfl, rfl, rfl, rfl, rfl, rfl, rfl, rfl, rfl, trivial⟩ (fun τr23 => ?_)
           refine RA.ret env_ok ?_
           refine ⟨.inr rfl, [(.string ((((((((((bstr (putL (u64N x.what) 1)) ++ (bstr (putL (u64N x.host) 4))) ++ (bstr (putL (u64N x.a) 4))) ++ (bstr (putL (u64N x.b) 4))) ++ (bstr (putL (u64N x.c) 4))) ++ (bstr (putL (u64N x.d) 4))) ++ (bstr (putL (u64N x.e) 4))) ++ (bstr (putL (u64N x.f) 4))) ++ (bstr (putL x.s.size 2))) ++ x.s))], (resL_cons rfl resL_nil), (congrArg Value.string (by rw [actF_t ⟨hc1, hc2, hc3, hc4, hc5, hc6, hc7, by omega, by omega, by omega⟩]; apply L_ext; simp only [L_append, L_bstr, actL, List.append_assoc, putL_u4]; rw [putL_u1 (by omega) (by omega), putL_n2 (by omega)])), (kc2 (by omega))⟩
       ·
        refine OA.callP (dst := (some 35)) (all := [(.int .i64 x.f)]) (v := (.bool false)) (hd.of (by omega) (kb2 (by omega))) rfl rfl rfl rfl rfl rfl rfl rfl (PS.to (bSmall _) (show (.bool (decide (sm x.f))) = ((.bool false) : Value) from (by first | (rw [decide_eq_false hc7]; done) | (rw [decide_eq_false hc7]; rfl)))) ?_
        intro n24 hn24
        refine OA.p (some 36) (.bool true) rfl rfl rfl rfl ?_
        refine OA.nil ?_
        intro _
        refine RA.condT rfl ?_
        refine RA.seq hd ?_
        refine RA.region env_ok ?_
        refine OA.p (some 2) (.string (ByteArray.mk #[])) rfl rfl rfl rfl ?_
        refine OA.nil ?_
        intro _
        refine RA.ret env_ok ?_
        refine ⟨.inr rfl, [(.string (ByteArray.mk #[]))], (resL_cons rfl resL_nil), (congrArg Value.string (actF_f (fun hh => hc7 hh.2.2.2.2.2.2.1)).symm), (kc2 (by omega))⟩
      ·
       refine OA.callP (dst := (some 35)) (all := [(.int .i64 x.e)]) (v := (.bool false)) (hd.of (by omega) (kb2 (by omega))) rfl rfl rfl rfl rfl rfl rfl rfl (PS.to (bSmall _) (show (.bool (decide (sm x.e))) = ((.bool false) : Value) from (by first | (rw [decide_eq_false hc6]; done) | (rw [decide_eq_false hc6]; rfl)))) ?_
       intro n25 hn25
       refine OA.p (some 36) (.bool true) rfl rfl rfl rfl ?_
       refine OA.nil ?_
       intro _
       refine RA.rebase [(0, (.agg ⟨(cAct x)⟩)), (1, (Pt n 0 0)), (2, (.string (ByteArray.mk #[]))), (3, (.slice (some ⟨(n + 1), 0, none⟩) 7 0)), (4, (.string ((((((bstr (putL (u64N x.what) 1)) ++ (bstr (putL (u64N x.host) 4))) ++ (bstr (putL (u64N x.a) 4))) ++ (bstr (putL (u64N x.b) 4))) ++ (bstr (putL (u64N x.c) 4))) ++ (bstr (putL (u64N x.d) 4))))), (5, (.int .i64 5)), (28, (.bool true)), (36, (.bool true))] ⟨rfl, rfl, rfl, rfl, rfl, rfl, rfl, rfl, trivial⟩ (fun τr26 => ?_)
       refine RA.condT rfl ?_
       refine RA.seq hd ?_
       refine RA.region env_ok ?_
       refine OA.p (some 2) (.string (ByteArray.mk #[])) rfl rfl rfl rfl ?_
       refine OA.nil ?_
       intro _
       refine RA.ret env_ok ?_
       refine ⟨.inr rfl, [(.string (ByteArray.mk #[]))], (resL_cons rfl resL_nil), (congrArg Value.string (actF_f (fun hh => hc6 hh.2.2.2.2.2.1)).symm), (kc2 (by omega))⟩
     ·
      refine OA.callP (dst := (some 35)) (all := [(.int .i64 x.d)]) (v := (.bool false)) (hd.of (by omega) (kb2 (by omega))) rfl rfl rfl rfl rfl rfl rfl rfl (PS.to (bSmall _) (show (.bool (decide (sm x.d))) = ((.bool false) : Value) from (by first | (rw [decide_eq_false hc5]; done) | (rw [decide_eq_false hc5]; rfl)))) ?_
      intro n27 hn27
      refine OA.p (some 36) (.bool true) rfl rfl rfl rfl ?_
      refine OA.nil ?_
      intro _
      refine RA.condT rfl ?_
      refine RA.seq hd ?_
      refine RA.region env_ok ?_
      refine OA.p (some 2) (.string (ByteArray.mk #[])) rfl rfl rfl rfl ?_
      refine OA.nil ?_
      intro _
      refine RA.ret env_ok ?_
      refine ⟨.inr rfl, [(.string (ByteArray.mk #[]))], (resL_cons rfl resL_nil), (congrArg Value.string (actF_f (fun hh => hc5 hh.2.2.2.2.1)).symm), (kc2 (by omega))⟩
    ·
     refine OA.callP (dst := (some 35)) (all := [(.int .i64 x.c)]) (v := (.bool false)) (hd.of (by omega) (kb2 (by omega))) rfl rfl rfl rfl rfl rfl rfl rfl (PS.to (bSmall _) (show (.bool (decide (sm x.c))) = ((.bool false) : Value) from (by first | (rw [decide_eq_false hc4]; done) | (rw [decide_eq_false hc4]; rfl)))) ?_
     intro n28 hn28
     refine OA.p (some 36) (.bool true) rfl rfl rfl rfl ?_
     refine OA.nil ?_
     intro _
     refine RA.condT rfl ?_
     refine RA.seq hd ?_
     refine RA.region env_ok ?_
     refine OA.p (some 2) (.string (ByteArray.mk #[])) rfl rfl rfl rfl ?_
     refine OA.nil ?_
     intro _
     refine RA.ret env_ok ?_
     refine ⟨.inr rfl, [(.string (ByteArray.mk #[]))], (resL_cons rfl resL_nil), (congrArg Value.string (actF_f (fun hh => hc4 hh.2.2.2.1)).symm), (kc2 (by omega))⟩
   ·
    refine OA.callP (dst := (some 35)) (all := [(.int .i64 x.b)]) (v := (.bool false)) (hd.of (by omega) (kb2 (by omega))) rfl rfl rfl rfl rfl rfl rfl rfl (PS.to (bSmall _) (show (.bool (decide (sm x.b))) = ((.bool false) : Value) from (by first | (rw [decide_eq_false hc3]; done) | (rw [decide_eq_false hc3]; rfl)))) ?_
    intro n29 hn29
    refine OA.p (some 36) (.bool true) rfl rfl rfl rfl ?_
    refine OA.nil ?_
    intro _
    refine RA.condT rfl ?_
    refine RA.seq hd ?_
    refine RA.region env_ok ?_
    refine OA.p (some 2) (.string (ByteArray.mk #[])) rfl rfl rfl rfl ?_
    refine OA.nil ?_
    intro _
    refine RA.ret env_ok ?_
    refine ⟨.inr rfl, [(.string (ByteArray.mk #[]))], (resL_cons rfl resL_nil), (congrArg Value.string (actF_f (fun hh => hc3 hh.2.2.1)).symm), (kc2 (by omega))⟩
  ·
   refine OA.callP (dst := (some 35)) (all := [(.int .i64 x.a)]) (v := (.bool false)) (hd.of (by omega) (kb2 (by omega))) rfl rfl rfl rfl rfl rfl rfl rfl (PS.to (bSmall _) (show (.bool (decide (sm x.a))) = ((.bool false) : Value) from (by first | (rw [decide_eq_false hc2]; done) | (rw [decide_eq_false hc2]; rfl)))) ?_
   intro n30 hn30
   refine OA.p (some 36) (.bool true) rfl rfl rfl rfl ?_
   refine OA.nil ?_
   intro _
   refine RA.rebase [(0, (.agg ⟨(cAct x)⟩)), (1, (Pt n 0 0)), (2, (.string (ByteArray.mk #[]))), (3, (.slice (some ⟨(n + 1), 0, none⟩) 7 0)), (4, (.string ((bstr (putL (u64N x.what) 1)) ++ (bstr (putL (u64N x.host) 4))))), (5, (.int .i64 1)), (28, (.bool true)), (36, (.bool true))] ⟨rfl, rfl, rfl, rfl, rfl, rfl, rfl, rfl, trivial⟩ (fun τr31 => ?_)
   refine RA.condT rfl ?_
   refine RA.seq hd ?_
   refine RA.region env_ok ?_
   refine OA.p (some 2) (.string (ByteArray.mk #[])) rfl rfl rfl rfl ?_
   refine OA.nil ?_
   intro _
   refine RA.ret env_ok ?_
   refine ⟨.inr rfl, [(.string (ByteArray.mk #[]))], (resL_cons rfl resL_nil), (congrArg Value.string (actF_f (fun hh => hc2 hh.2.1)).symm), (kc2 (by omega))⟩
 ·
  refine OA.callP (dst := (some 35)) (all := [(.int .i64 x.host)]) (v := (.bool false)) (hd.of (by omega) (kb2 (by omega))) rfl rfl rfl rfl rfl rfl rfl rfl (PS.to (bSmall _) (show (.bool (decide (sm x.host))) = ((.bool false) : Value) from (by first | (rw [decide_eq_false hc1]; done) | (rw [decide_eq_false hc1]; rfl)))) ?_
  intro n32 hn32
  refine OA.p (some 36) (.bool true) rfl rfl rfl rfl ?_
  refine OA.nil ?_
  intro _
  refine RA.condT rfl ?_
  refine RA.seq hd ?_
  refine RA.region env_ok ?_
  refine OA.p (some 2) (.string (ByteArray.mk #[])) rfl rfl rfl rfl ?_
  refine OA.nil ?_
  intro _
  refine RA.ret env_ok ?_
  refine ⟨.inr rfl, [(.string (ByteArray.mk #[]))], (resL_cons rfl resL_nil), (congrArg Value.string (actF_f (fun hh => hc1 hh.1)).symm), (kc2 (by omega))⟩
end Go.Proofs.Ytgajcmanompmcaa.Vt
