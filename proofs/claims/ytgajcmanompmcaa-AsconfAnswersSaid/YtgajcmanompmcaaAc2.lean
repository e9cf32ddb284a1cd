/- Ac2: walks through functions of the program, by the calculus; written by a program of this workplace. -/
import Derived.Test.YtgajcmanompmcaaAc1
import Derived.Test.YtgajcmanompmcaaVm6
namespace Go.Proofs.Ytgajcmanompmcaa.Vt
open Go Go.Proofs Go.Proofs.YtgajcmanompmcaaV
set_option maxRecDepth 100000
set_option linter.unusedVariables false
set_option linter.unusedSimpArgs false
theorem andN_3 (x : Int) : andN x 3 = (x % 4).toNat := by
  unfold andN
  rw [BitVec.toNat_and, BitVec.toNat_ofInt, show (BitVec.ofInt 64 ((3 : Nat) : Int)).toNat = 2 ^ 2 - 1 from rfl, Nat.and_two_pow_sub_one_eq_mod]
  omega
theorem zeros_cut {p : Nat} (hp : p ≤ 3) : (ByteArray.mk #[0, 0, 0]).extract 0 p = bstr (List.replicate p 0) := by
  rcases (show p = 0 ∨ p = 1 ∨ p = 2 ∨ p = 3 by omega) with rfl | rfl | rfl | rfl <;> rfl
def padN (n : Nat) : Nat := (4 - n % 4) % 4
theorem fillL_eq (l : List UInt8) : fillL l = l ++ List.replicate (padN l.length) 0 := rfl
theorem zero_bstr : ByteArray.mk #[0] = bstr [0] := rfl
theorem pL_len (t : Nat) (v : List UInt8) : (be2 t ++ be2 (v.length + 4) ++ v).length = 4 + v.length := by simp only [List.length_append, be2_len]
def be1 (m : Nat) : List UInt8 := [UInt8.ofNat m]
theorem be1_len (m : Nat) : (be1 m).length = 1 := rfl
theorem lPad {σ : Store} (k : Nat) (hk : k < 2147483648)   : PS Try.prog noDen 89 [(.int .i64 ((k : Nat) : Int))] σ (.int .i64 ((padN k : Nat) : Int)) := by
 refine PS.body (E := env) env_ok rfl rfl (by show _ ≤ _; exact of_decide_eq_true (by kernel_rfl)) (fun n hd => ?_)
 refine RA.seq hd ?_
 refine RA.region env_ok ?_
 refine OA.p (some 2) (.int .i64 0) rfl rfl rfl rfl ?_
 refine OA.nil ?_
 intro _
 refine RA.seq hd ?_
 refine RA.region env_ok ?_
 refine OA.p (some 3) (.int .i64 ((k : Nat) : Int)) rfl rfl rfl rfl ?_
 refine OA.p (some 4) (.int .i64 (-((k : Nat) : Int))) rfl rfl rfl (r_neg rfl rfl (i64_eq (by omega))) ?_
 refine OA.p (some 5) (.int .i64 (((andN (-((k : Nat) : Int)) 3) : Nat) : Int)) rfl rfl rfl (r_bin rfl rfl rfl (b_andN (-((k : Nat) : Int)) 3 (by decide))) ?_
 refine OA.p (some 2) (.int .i64 (((andN (-((k : Nat) : Int)) 3) : Nat) : Int)) rfl rfl rfl rfl ?_
 refine OA.nil ?_
 intro _
 refine RA.ret env_ok ?_
 refine ⟨.inr rfl, [(.int .i64 (((andN (-((k : Nat) : Int)) 3) : Nat) : Int))], (resL_cons rfl resL_nil), (by show Value.int _ _ = Value.int _ _; rw [andN_3, show ((-((k : Nat) : Int)) % 4).toNat = padN k from by unfold padN; omega]), (fun i hi => by cases hi)⟩

theorem lFilled {σ : Store} (l : List UInt8) (hl : l.length < 1000000)   : PS Try.prog noDen 76 [(.string (bstr l))] σ (.string (bstr (fillL l))) := by
 refine PS.body (E := env) env_ok rfl rfl (by show _ ≤ _; exact of_decide_eq_true (by kernel_rfl)) (fun n hd => ?_)
 refine RA.seq hd ?_
 refine RA.region env_ok ?_
 refine OA.p (some 2) (.string (ByteArray.mk #[])) rfl rfl rfl rfl ?_
 refine OA.nil ?_
 intro _
 refine RA.seq hd ?_
 refine RA.region env_ok ?_
 refine OA.p (some 3) (.string (bstr l)) rfl rfl rfl rfl ?_
 refine OA.p (some 4) (.string (bstr l)) rfl rfl rfl rfl ?_
 refine OA.p (some 5) (.int .i64 ((l.length : Nat) : Int)) rfl rfl rfl (Eq.trans (show _ = some (Value.int .i64 (((bstr l).size : Nat) : Int), _, []) from rfl) (by rw [bstr_size] <;> rfl)) ?_
 refine OA.callP (dst := (some 6)) (all := [(.int .i64 ((l.length : Nat) : Int))]) (v := (.int .i64 (((padN l.length) : Nat) : Int))) (hd.up (by omega)) rfl rfl rfl rfl rfl rfl rfl rfl (lPad l.length (by omega)) ?_
 intro n1 hn1
 refine OA.p (some 7) (.string (bstr (List.replicate (padN l.length) 0))) rfl rfl rfl (Eq.trans (r_cut (a := 0) (b := (padN l.length)) rfl rfl (fun _ => rfl) (fun _ => rfl) rfl rfl rfl bound_nat (by omega) (by show (padN l.length) ≤ 3; unfold padN; omega) rfl) (by rw [zeros_cut (by unfold padN; omega)] <;> rfl)) ?_
 refine OA.p (some 8) (.string (bstr (l ++ (List.replicate (padN l.length) 0)))) rfl rfl rfl (Eq.trans (r_cat rfl rfl rfl (by simp only [bstr_size, size_lit, List.length_append, be2_len, be4_len, be1_len, List.length_replicate, List.length_cons, List.length_nil, List.size_toArray]; unfold padN; omega)) (by rw [bstr_app] <;> rfl)) ?_
 refine OA.p (some 2) (.string (bstr (l ++ (List.replicate (padN l.length) 0)))) rfl rfl rfl rfl ?_
 refine OA.nil ?_
 intro _
 refine RA.ret env_ok ?_
 refine ⟨.inr rfl, [(.string (bstr (l ++ (List.replicate (padN l.length) 0))))], (resL_cons rfl resL_nil), rfl, (fun i hi => by cases hi)⟩

theorem lRF {σ : Store} (l : List UInt8) (hl : l.length < 1000000)   : PS Try.prog noDen 74 [(.string (bstr l))] σ (.string (bstr (fillL l))) := by
 refine PS.body (E := env) env_ok rfl rfl (by show _ ≤ _; exact of_decide_eq_true (by kernel_rfl)) (fun n hd => ?_)
 refine RA.seq hd ?_
 refine RA.region env_ok ?_
 refine OA.p (some 2) (.string (ByteArray.mk #[])) rfl rfl rfl rfl ?_
 refine OA.nil ?_
 intro _
 refine RA.seq hd ?_
 refine RA.region env_ok ?_
 refine OA.p (some 4) (.string (bstr l)) rfl rfl rfl rfl ?_
 refine OA.p (some 3) (.string (bstr l)) rfl rfl rfl rfl ?_
 refine OA.nil ?_
 intro _
 refine RA.seq hd ?_
 refine RA.block ?_
 refine RA.loop hd (fun kk_ τ n' D => ∃ k : Nat,  kk_ = (padN l.length - k) ∧ n ≤ n' ∧ Has τ [(3, (.string (bstr (l ++ List.replicate k 0))))] ∧ D = [] ∧ (∀ i ∈ keys D, i < n') ∧ k ≤ padN l.length) ((padN l.length - 0)) ⟨0, rfl, by omega, ⟨(by rw [List.replicate_zero, List.append_nil] <;> rfl), trivial⟩, rfl, (fun i hi => by cases hi), (by omega)⟩ ?_
 rintro kn1 τ1 n1 _ ⟨k, rfl, hn1, hHn1, rfl, hKn1, hIn1⟩
 rw [Has.eq hHn1]
 simp only [keys, List.map, List.forall_mem_cons, List.mem_cons, List.not_mem_nil, false_imp_iff, implies_true, and_true] at hKn1
 obtain hk1 := hIn1
 have hcl : (l ++ List.replicate k 0).length = l.length + k := by rw [List.length_append, List.length_replicate]
 have hpl : padN l.length ≤ 3 := by unfold padN; omega
 have hpe : padN l.length = (4 - l.length % 4) % 4 := rfl
 refine RA.seq hd ?_
 refine RA.seq hd ?_
 refine RA.region env_ok ?_
 refine OA.p (some 5) (.string (bstr (l ++ List.replicate k 0))) rfl rfl rfl rfl ?_
 refine OA.p (some 6) (.int .i64 (((l ++ List.replicate k 0).length : Nat) : Int)) rfl rfl rfl (Eq.trans (show _ = some (Value.int .i64 (((bstr (l ++ List.replicate k 0)).size : Nat) : Int), _, []) from rfl) (by rw [bstr_size] <;> rfl)) ?_
 refine OA.p (some 7) (.int .i64 ((((l ++ List.replicate k 0).length % 4) : Nat) : Int)) rfl rfl rfl (r_bin rfl rfl rfl (b_remN (a := (l ++ List.replicate k 0).length) (c := 4) (by decide))) ?_
 by_cases hc1 : ((((l ++ List.replicate k 0).length % 4) : Nat) : Int) ≠ 0
 ·
  refine OA.p (some 8) (.bool true) rfl rfl rfl (Eq.trans (r_bin rfl rfl rfl (b_neq rfl)) (dT hc1)) ?_
  refine OA.nil ?_
  intro _
  refine RA.condT rfl ?_
  refine RA.skip env_ok ?_
  intro _
  refine RA.block ?_
  refine RA.region env_ok ?_
  refine OA.p (some 9) (.string (bstr (l ++ List.replicate k 0))) rfl rfl rfl rfl ?_
  refine OA.p (some 10) (.string (bstr ((l ++ List.replicate k 0) ++ ([0] : List UInt8)))) rfl rfl rfl (Eq.trans (r_cat rfl rfl rfl (by simp only [bstr_size, size_lit, List.length_append, be2_len, be4_len, be1_len, List.length_replicate, List.length_cons, List.length_nil, List.size_toArray]; omega)) (by rw [(show bstr (l ++ List.replicate k 0) ++ ByteArray.mk #[0] = bstr ((l ++ List.replicate k 0) ++ ([0] : List UInt8)) from bstr_app _ [0])] <;> rfl)) ?_
  refine OA.p (some 3) (.string (bstr ((l ++ List.replicate k 0) ++ ([0] : List UInt8)))) rfl rfl rfl rfl ?_
  refine OA.nil ?_
  refine ⟨(padN l.length - (k + 1)), by omega, [], (Less.refl _ _ _), (k + 1), rfl, by omega, ⟨(by rw [List.append_assoc, ← List.replicate_succ'] <;> rfl), trivial⟩, rfl, (fun i hi => by cases hi), (by omega)⟩
 ·
  refine OA.p (some 8) (.bool false) rfl rfl rfl (Eq.trans (r_bin rfl rfl rfl (b_neq rfl)) (dF hc1)) ?_
  refine OA.nil ?_
  intro _
  refine RA.condF rfl ?_
  refine RA.exit env_ok ?_
  intro _
  refine RA.seq hd ?_
  refine RA.region env_ok ?_
  refine OA.p (some 11) (.string (bstr (l ++ List.replicate k 0))) rfl rfl rfl rfl ?_
  refine OA.p (some 2) (.string (bstr (l ++ List.replicate k 0))) rfl rfl rfl rfl ?_
  refine OA.nil ?_
  intro _
  refine RA.ret env_ok ?_
  refine ⟨.inr rfl, [(.string (bstr (l ++ List.replicate k 0)))], (resL_cons rfl resL_nil), (by show Value.string _ = Value.string _; rw [fillL_eq, show k = padN l.length from by omega]), (fun i hi => by cases hi)⟩

theorem lPMay {σ : Store} (t : Nat) (v : List UInt8) (ht : t < 65536) (hv : v.length ≤ 1000)   : PS Try.prog noDen 112 [(.agg ⟨[(.int .i64 ((t : Nat) : Int)), (.string (bstr v))]⟩)] σ (.bool true) := by
 refine PS.body (E := env) env_ok rfl rfl (by show _ ≤ _; exact of_decide_eq_true (by kernel_rfl)) (fun n hd => ?_)
 refine RA.seq hd ?_
 refine RA.region env_ok ?_
 refine OA.op1 (dst := (some 1)) (v := (Pt n 0 0)) (n1 := (n + 1)) (w := (n, some ⟨[[(.int .i64 ((t : Nat) : Int)), (.string (bstr v))]], 2, 35, true⟩)) rfl rfl rfl rfl (by omega) ?_
 refine OA.p (some 2) (.bool false) rfl rfl rfl rfl ?_
 refine OA.nil ?_
 intro _
 refine RA.seq hd ?_
 refine RA.region env_ok ?_
 refine OA.p (some 3) (Pt n 0 0) rfl rfl rfl rfl ?_
 refine OA.p (some 4) (.int .i64 ((t : Nat) : Int)) rfl rfl rfl (r_load1 rfl rfl rfl rfl rfl get_here rfl rfl) ?_
 have hc1 : 0 ≤ ((t : Nat) : Int) := Classical.byContradiction (fun hdd => by exfalso; omega)
 refine OA.p (some 5) (.bool true) rfl rfl rfl (Eq.trans (r_bin rfl rfl rfl (b_geq rfl)) (dT hc1)) ?_
 refine OA.p (some 6) (.bool true) rfl rfl rfl rfl ?_
 refine OA.p (some 7) (Pt n 0 0) rfl rfl rfl rfl ?_
 refine OA.p (some 8) (.int .i64 ((t : Nat) : Int)) rfl rfl rfl (r_load1 rfl rfl rfl rfl rfl get_here rfl rfl) ?_
 have hc2 : ((t : Nat) : Int) < 65536 := Classical.byContradiction (fun hdd => by exfalso; omega)
 refine OA.p (some 9) (.bool true) rfl rfl rfl (Eq.trans (r_bin rfl rfl rfl (b_lss rfl)) (dT hc2)) ?_
 refine OA.p (some 10) (.bool true) rfl rfl rfl rfl ?_
 refine OA.p (some 11) (.bool true) rfl rfl rfl rfl ?_
 refine OA.p (some 12) (Pt n 0 1) rfl rfl rfl rfl ?_
 refine OA.p (some 13) (.string (bstr v)) rfl rfl rfl (r_load1 rfl rfl rfl rfl rfl get_here rfl rfl) ?_
 refine OA.p (some 14) (.int .i64 ((v.length : Nat) : Int)) rfl rfl rfl (Eq.trans (show _ = some (Value.int .i64 (((bstr v).size : Nat) : Int), _, []) from rfl) (by rw [bstr_size] <;> rfl)) ?_
 refine OA.p (some 15) (.bool (decide (((v.length : Nat) : Int) ≤ 1000))) rfl rfl rfl (r_bin rfl rfl rfl (b_leq rfl)) ?_
 refine OA.p (some 16) (.bool (decide (((v.length : Nat) : Int) ≤ 1000))) rfl rfl rfl rfl ?_
 refine OA.p (some 2) (.bool (decide (((v.length : Nat) : Int) ≤ 1000))) rfl rfl rfl rfl ?_
 refine OA.nil ?_
 intro _
 refine RA.ret env_ok ?_
 refine ⟨.inr rfl, [(.bool (decide (((v.length : Nat) : Int) ≤ 1000)))], (resL_cons rfl resL_nil), (by rw [one, decide_eq_true (by omega)]), (kc1 (by omega))⟩

theorem lPPut {σ : Store} (t : Nat) (v : List UInt8) (ht : t < 65536) (hv : v.length ≤ 1000)   : PS Try.prog noDen 101 [(.agg ⟨[(.int .i64 ((t : Nat) : Int)), (.string (bstr v))]⟩)] σ (.string (bstr (pL t v))) := by
 refine PS.body (E := env) env_ok rfl rfl (by show _ ≤ _; exact of_decide_eq_true (by kernel_rfl)) (fun n hd => ?_)
 refine RA.seq hd ?_
 refine RA.region env_ok ?_
 refine OA.op1 (dst := (some 1)) (v := (Pt n 0 0)) (n1 := (n + 1)) (w := (n, some ⟨[[(.int .i64 ((t : Nat) : Int)), (.string (bstr v))]], 2, 35, true⟩)) rfl rfl rfl rfl (by omega) ?_
 refine OA.p (some 2) (.string (ByteArray.mk #[])) rfl rfl rfl rfl ?_
 refine OA.nil ?_
 intro _
 refine RA.seq hd ?_
 refine RA.seq hd ?_
 refine RA.region env_ok ?_
 refine OA.p (some 3) (.agg ⟨[(.int .i64 ((t : Nat) : Int)), (.string (bstr v))]⟩) rfl rfl rfl (r_loadA rfl rfl rfl rfl get_here rfl rfl rfl) ?_
 refine OA.callP (dst := (some 4)) (all := [(.agg ⟨[(.int .i64 ((t : Nat) : Int)), (.string (bstr v))]⟩)]) (v := (.bool true)) (hd.of (by omega) (kb1 (by omega))) rfl rfl rfl rfl rfl rfl rfl rfl (lPMay t v ht hv) ?_
 intro n1 hn1
 refine OA.p (some 5) (.bool false) rfl rfl rfl rfl ?_
 refine OA.nil ?_
 intro _
 refine RA.condF rfl ?_
 refine RA.skip env_ok ?_
 intro _
 refine RA.seq hd ?_
 refine RA.par (md := [some [], some [n], none, some [], some [n], some [], some [], none, some [], some [], some [n], some [], none, some []]) env_ok (hd.of (by omega) (kb1 (by omega))) (by kernel_rfl) ?_
 refine PQ.pure (dst := (some 6)) (v := (Pt n 0 0)) rfl rfl rfl noStore (none_ok _ _) rfl ?_
 refine PQ.pure (dst := (some 7)) (v := (.int .i64 ((t : Nat) : Int))) rfl rfl rfl (app [(n, some ⟨[[(.int .i64 ((t : Nat) : Int)), (.string (bstr v))]], 2, 35, true⟩)] noStore) (seen_one (V := []) (D := [(n, some ⟨[[(.int .i64 ((t : Nat) : Int)), (.string (bstr v))]], 2, 35, true⟩)]) (by kernel_rfl) get_here) (r_load1 rfl rfl rfl rfl rfl get_here rfl rfl) ?_
 refine PQ.callP (dst := (some 8)) (all := [(.int .i64 ((t : Nat) : Int))]) (v := (.string (bstr (be2 t)))) _ (hd.of (by omega) (kb1 (by omega))) rfl rfl rfl rfl rfl rfl rfl rfl (seen_any (V := []) (D := [(n, some ⟨[[(.int .i64 ((t : Nat) : Int)), (.string (bstr v))]], 2, 35, true⟩)]) (by kernel_rfl)) (sU16 t (by omega)) ?_
 intro n2 hn2
 refine PQ.pure (dst := (some 9)) (v := (Pt n 0 1)) rfl rfl rfl noStore (none_ok _ _) rfl ?_
 refine PQ.pure (dst := (some 10)) (v := (.string (bstr v))) rfl rfl rfl (app [(n, some ⟨[[(.int .i64 ((t : Nat) : Int)), (.string (bstr v))]], 2, 35, true⟩)] noStore) (seen_one (V := []) (D := [(n, some ⟨[[(.int .i64 ((t : Nat) : Int)), (.string (bstr v))]], 2, 35, true⟩)]) (by kernel_rfl) get_here) (r_load1 rfl rfl rfl rfl rfl get_here rfl rfl) ?_
 refine PQ.pure (dst := (some 11)) (v := (.int .i64 ((v.length : Nat) : Int))) rfl rfl rfl noStore (none_ok _ _) (Eq.trans (show _ = some (Value.int .i64 (((bstr v).size : Nat) : Int), _, []) from rfl) (by rw [bstr_size] <;> rfl)) ?_
 refine PQ.pure (dst := (some 12)) (v := (.int .i64 (((v.length + 4) : Nat) : Int))) rfl rfl rfl noStore (none_ok _ _) (r_bin rfl rfl rfl (b_add (i64_eq (by omega)))) ?_
 refine PQ.callP (dst := (some 13)) (all := [(.int .i64 (((v.length + 4) : Nat) : Int))]) (v := (.string (bstr (be2 (v.length + 4))))) _ (hd.of (by omega) (kb1 (by omega))) rfl rfl rfl rfl rfl rfl rfl rfl (seen_any (V := []) (D := [(n, some ⟨[[(.int .i64 ((t : Nat) : Int)), (.string (bstr v))]], 2, 35, true⟩)]) (by kernel_rfl)) (sU16 (v.length + 4) (by omega)) ?_
 intro n3 hn3
 refine PQ.pure (dst := (some 14)) (v := (.string (bstr ((be2 t) ++ (be2 (v.length + 4)))))) rfl rfl rfl noStore (none_ok _ _) (Eq.trans (r_cat rfl rfl rfl (by simp only [bstr_size, size_lit, List.length_append, be2_len, be4_len, be1_len, List.length_replicate, List.length_cons, List.length_nil, List.size_toArray]; omega)) (by rw [bstr_app] <;> rfl)) ?_
 refine PQ.pure (dst := (some 15)) (v := (Pt n 0 1)) rfl rfl rfl noStore (none_ok _ _) rfl ?_
 refine PQ.pure (dst := (some 16)) (v := (.string (bstr v))) rfl rfl rfl (app [(n, some ⟨[[(.int .i64 ((t : Nat) : Int)), (.string (bstr v))]], 2, 35, true⟩)] noStore) (seen_one (V := []) (D := [(n, some ⟨[[(.int .i64 ((t : Nat) : Int)), (.string (bstr v))]], 2, 35, true⟩)]) (by kernel_rfl) get_here) (r_load1 rfl rfl rfl rfl rfl get_here rfl rfl) ?_
 refine PQ.pure (dst := (some 17)) (v := (.string (bstr (((be2 t) ++ (be2 (v.length + 4))) ++ v)))) rfl rfl rfl noStore (none_ok _ _) (Eq.trans (r_cat rfl rfl rfl (by simp only [bstr_size, size_lit, List.length_append, be2_len, be4_len, be1_len, List.length_replicate, List.length_cons, List.length_nil, List.size_toArray]; omega)) (by rw [bstr_app] <;> rfl)) ?_
 refine PQ.callP (dst := (some 18)) (all := [(.string (bstr (((be2 t) ++ (be2 (v.length + 4))) ++ v)))]) (v := (.string (bstr (pL t v)))) _ (hd.of (by omega) (kb1 (by omega))) rfl rfl rfl rfl rfl rfl rfl rfl (seen_any (V := []) (D := [(n, some ⟨[[(.int .i64 ((t : Nat) : Int)), (.string (bstr v))]], 2, 35, true⟩)]) (by kernel_rfl)) (lFilled (be2 t ++ be2 (v.length + 4) ++ v) (by rw [pL_len]; omega)) ?_
 intro n4 hn4
 refine PQ.pure (dst := (some 2)) (v := (.string (bstr (pL t v)))) rfl rfl rfl noStore (none_ok _ _) rfl ?_
 refine PQ.done (d := []) (by kernel_rfl) ?_
 intro _
 refine RA.ret env_ok ?_
 refine ⟨.inr rfl, [(.string (bstr (pL t v)))], (resL_cons rfl resL_nil), rfl, (kc1 (by omega))⟩

theorem lCPut {σ : Store} (t : Nat) (v : List UInt8) (ht : t < 65536) (hv : v.length ≤ 1000)   : PS Try.prog noDen 71 [(.agg ⟨[(.int .i64 ((t : Nat) : Int)), (.string (bstr v))]⟩)] σ (.string (bstr (pL t v))) := by
 refine PS.body (E := env) env_ok rfl rfl (by show _ ≤ _; exact of_decide_eq_true (by kernel_rfl)) (fun n hd => ?_)
 refine RA.seq hd ?_
 refine RA.region env_ok ?_
 refine OA.op1 (dst := (some 1)) (v := (Pt n 0 0)) (n1 := (n + 1)) (w := (n, some ⟨[[(.int .i64 ((t : Nat) : Int)), (.string (bstr v))]], 2, 99, true⟩)) rfl rfl rfl rfl (by omega) ?_
 refine OA.p (some 2) (.string (ByteArray.mk #[])) rfl rfl rfl rfl ?_
 refine OA.nil ?_
 intro _
 refine RA.seq hd ?_
 refine RA.region env_ok ?_
 refine OA.p (some 3) (Pt n 0 0) rfl rfl rfl rfl ?_
 refine OA.p (some 4) (.int .i64 ((t : Nat) : Int)) rfl rfl rfl (r_load1 rfl rfl rfl rfl rfl get_here rfl rfl) ?_
 refine OA.p (some 5) (Pt n 0 1) rfl rfl rfl rfl ?_
 refine OA.p (some 6) (.string (bstr v)) rfl rfl rfl (r_load1 rfl rfl rfl rfl rfl get_here rfl rfl) ?_
 refine OA.p (some 7) (.agg ⟨[(.int .i64 ((t : Nat) : Int)), (.string (bstr v))]⟩) rfl rfl rfl (by kernel_rfl) ?_
 refine OA.callP (dst := (some 8)) (all := [(.agg ⟨[(.int .i64 ((t : Nat) : Int)), (.string (bstr v))]⟩)]) (v := (.string (bstr (pL t v)))) (hd.of (by omega) (kb1 (by omega))) rfl rfl rfl rfl rfl rfl rfl rfl (lPPut t v ht hv) ?_
 intro n1 hn1
 refine OA.p (some 2) (.string (bstr (pL t v))) rfl rfl rfl rfl ?_
 refine OA.nil ?_
 intro _
 refine RA.ret env_ok ?_
 refine ⟨.inr rfl, [(.string (bstr (pL t v)))], (resL_cons rfl resL_nil), rfl, (kc1 (by omega))⟩

theorem lR4May {σ : Store} (t : Nat) (v : List UInt8) (ht : t < 65536) (hv : v.length ≤ 1000)   : PS Try.prog noDen 73 [(.agg ⟨[(.int .i64 ((t : Nat) : Int)), (.string (bstr v))]⟩)] σ (.bool true) := by
 refine PS.body (E := env) env_ok rfl rfl (by show _ ≤ _; exact of_decide_eq_true (by kernel_rfl)) (fun n hd => ?_)
 refine RA.seq hd ?_
 refine RA.region env_ok ?_
 refine OA.op1 (dst := (some 1)) (v := (Pt n 0 0)) (n1 := (n + 1)) (w := (n, some ⟨[[(.int .i64 ((t : Nat) : Int)), (.string (bstr v))]], 2, 79, true⟩)) rfl rfl rfl rfl (by omega) ?_
 refine OA.p (some 2) (.bool false) rfl rfl rfl rfl ?_
 refine OA.nil ?_
 intro _
 refine RA.seq hd ?_
 refine RA.region env_ok ?_
 refine OA.p (some 3) (Pt n 0 0) rfl rfl rfl rfl ?_
 refine OA.p (some 4) (.int .i64 ((t : Nat) : Int)) rfl rfl rfl (r_load1 rfl rfl rfl rfl rfl get_here rfl rfl) ?_
 have hc1 : 0 ≤ ((t : Nat) : Int) := Classical.byContradiction (fun hdd => by exfalso; omega)
 refine OA.p (some 5) (.bool true) rfl rfl rfl (Eq.trans (r_bin rfl rfl rfl (b_geq rfl)) (dT hc1)) ?_
 refine OA.p (some 6) (.bool true) rfl rfl rfl rfl ?_
 refine OA.p (some 7) (Pt n 0 0) rfl rfl rfl rfl ?_
 refine OA.p (some 8) (.int .i64 ((t : Nat) : Int)) rfl rfl rfl (r_load1 rfl rfl rfl rfl rfl get_here rfl rfl) ?_
 have hc2 : ((t : Nat) : Int) ≤ 65535 := Classical.byContradiction (fun hdd => by exfalso; omega)
 refine OA.p (some 9) (.bool true) rfl rfl rfl (Eq.trans (r_bin rfl rfl rfl (b_leq rfl)) (dT hc2)) ?_
 refine OA.p (some 10) (.bool true) rfl rfl rfl rfl ?_
 refine OA.p (some 11) (.bool true) rfl rfl rfl rfl ?_
 refine OA.p (some 12) (Pt n 0 1) rfl rfl rfl rfl ?_
 refine OA.p (some 13) (.string (bstr v)) rfl rfl rfl (r_load1 rfl rfl rfl rfl rfl get_here rfl rfl) ?_
 refine OA.p (some 14) (.int .i64 ((v.length : Nat) : Int)) rfl rfl rfl (Eq.trans (show _ = some (Value.int .i64 (((bstr v).size : Nat) : Int), _, []) from rfl) (by rw [bstr_size] <;> rfl)) ?_
 refine OA.p (some 15) (.bool (decide (((v.length : Nat) : Int) ≤ 1000))) rfl rfl rfl (r_bin rfl rfl rfl (b_leq rfl)) ?_
 refine OA.p (some 16) (.bool (decide (((v.length : Nat) : Int) ≤ 1000))) rfl rfl rfl rfl ?_
 refine OA.p (some 2) (.bool (decide (((v.length : Nat) : Int) ≤ 1000))) rfl rfl rfl rfl ?_
 refine OA.nil ?_
 intro _
 refine RA.ret env_ok ?_
 refine ⟨.inr rfl, [(.bool (decide (((v.length : Nat) : Int) ≤ 1000)))], (resL_cons rfl resL_nil), (by rw [one, decide_eq_true (by omega)]), (kc1 (by omega))⟩

theorem lPut2 {σ : Store} (m : Nat) (hm : m < 65536) : PS Try.prog noDen 22 [.int .u64 ((m : Nat) : Int), .int .i64 2] σ (.string (bstr (be2 m))) := (sPut 2 m (by omega) (by decide)).to (by rw [putL_be2 m hm])

theorem lR4 {σ : Store} (t : Nat) (v : List UInt8) (ht : t < 65536) (hv : v.length ≤ 1000)   : PS Try.prog noDen 43 [(.agg ⟨[(.int .i64 ((t : Nat) : Int)), (.string (bstr v))]⟩)] σ (.string (bstr (pL t v))) := by
 refine PS.body (E := env) env_ok rfl rfl (by show _ ≤ _; exact of_decide_eq_true (by kernel_rfl)) (fun n hd => ?_)
 refine RA.seq hd ?_
 refine RA.region env_ok ?_
 refine OA.op1 (dst := (some 1)) (v := (Pt n 0 0)) (n1 := (n + 1)) (w := (n, some ⟨[[(.int .i64 ((t : Nat) : Int)), (.string (bstr v))]], 2, 79, true⟩)) rfl rfl rfl rfl (by omega) ?_
 refine OA.p (some 2) (.string (ByteArray.mk #[])) rfl rfl rfl rfl ?_
 refine OA.nil ?_
 intro _
 refine RA.seq hd ?_
 refine RA.seq hd ?_
 refine RA.region env_ok ?_
 refine OA.p (some 3) (.agg ⟨[(.int .i64 ((t : Nat) : Int)), (.string (bstr v))]⟩) rfl rfl rfl (r_loadA rfl rfl rfl rfl get_here rfl rfl rfl) ?_
 refine OA.callP (dst := (some 4)) (all := [(.agg ⟨[(.int .i64 ((t : Nat) : Int)), (.string (bstr v))]⟩)]) (v := (.bool true)) (hd.of (by omega) (kb1 (by omega))) rfl rfl rfl rfl rfl rfl rfl rfl (lR4May t v ht hv) ?_
 intro n1 hn1
 refine OA.p (some 5) (.bool false) rfl rfl rfl rfl ?_
 refine OA.nil ?_
 intro _
 refine RA.condF rfl ?_
 refine RA.skip env_ok ?_
 intro _
 refine RA.seq hd ?_
 refine RA.par (md := [some [], some [n], some [], none, some [], some [n], some [], some [], some [], none, some [], some [], some [n], some [], none, some []]) env_ok (hd.of (by omega) (kb1 (by omega))) (by kernel_rfl) ?_
 refine PQ.pure (dst := (some 6)) (v := (Pt n 0 0)) rfl rfl rfl noStore (none_ok _ _) rfl ?_
 refine PQ.pure (dst := (some 7)) (v := (.int .i64 ((t : Nat) : Int))) rfl rfl rfl (app [(n, some ⟨[[(.int .i64 ((t : Nat) : Int)), (.string (bstr v))]], 2, 79, true⟩)] noStore) (seen_one (V := []) (D := [(n, some ⟨[[(.int .i64 ((t : Nat) : Int)), (.string (bstr v))]], 2, 79, true⟩)]) (by kernel_rfl) get_here) (r_load1 rfl rfl rfl rfl rfl get_here rfl rfl) ?_
 refine PQ.pure (dst := (some 8)) (v := (.int .u64 ((t : Nat) : Int))) rfl rfl rfl noStore (none_ok _ _) (r_cvt rfl rfl rfl rfl rfl ⟨_, rfl⟩ (u64_eq (by omega))) ?_
 refine PQ.callP (dst := (some 9)) (all := [(.int .u64 ((t : Nat) : Int)), (.int .i64 2)]) (v := (.string (bstr (be2 t)))) _ (hd.of (by omega) (kb1 (by omega))) rfl rfl rfl rfl rfl rfl rfl rfl (seen_any (V := []) (D := [(n, some ⟨[[(.int .i64 ((t : Nat) : Int)), (.string (bstr v))]], 2, 79, true⟩)]) (by kernel_rfl)) (lPut2 t (by omega)) ?_
 intro n2 hn2
 refine PQ.pure (dst := (some 10)) (v := (Pt n 0 1)) rfl rfl rfl noStore (none_ok _ _) rfl ?_
 refine PQ.pure (dst := (some 11)) (v := (.string (bstr v))) rfl rfl rfl (app [(n, some ⟨[[(.int .i64 ((t : Nat) : Int)), (.string (bstr v))]], 2, 79, true⟩)] noStore) (seen_one (V := []) (D := [(n, some ⟨[[(.int .i64 ((t : Nat) : Int)), (.string (bstr v))]], 2, 79, true⟩)]) (by kernel_rfl) get_here) (r_load1 rfl rfl rfl rfl rfl get_here rfl rfl) ?_
 refine PQ.pure (dst := (some 12)) (v := (.int .i64 ((v.length : Nat) : Int))) rfl rfl rfl noStore (none_ok _ _) (Eq.trans (show _ = some (Value.int .i64 (((bstr v).size : Nat) : Int), _, []) from rfl) (by rw [bstr_size] <;> rfl)) ?_
 refine PQ.pure (dst := (some 13)) (v := (.int .i64 (((v.length + 4) : Nat) : Int))) rfl rfl rfl noStore (none_ok _ _) (r_bin rfl rfl rfl (b_add (i64_eq (by omega)))) ?_
 refine PQ.pure (dst := (some 14)) (v := (.int .u64 (((v.length + 4) : Nat) : Int))) rfl rfl rfl noStore (none_ok _ _) (r_cvt rfl rfl rfl rfl rfl ⟨_, rfl⟩ (u64_eq (by omega))) ?_
 refine PQ.callP (dst := (some 15)) (all := [(.int .u64 (((v.length + 4) : Nat) : Int)), (.int .i64 2)]) (v := (.string (bstr (be2 (v.length + 4))))) _ (hd.of (by omega) (kb1 (by omega))) rfl rfl rfl rfl rfl rfl rfl rfl (seen_any (V := []) (D := [(n, some ⟨[[(.int .i64 ((t : Nat) : Int)), (.string (bstr v))]], 2, 79, true⟩)]) (by kernel_rfl)) (lPut2 (v.length + 4) (by omega)) ?_
 intro n3 hn3
 refine PQ.pure (dst := (some 16)) (v := (.string (bstr ((be2 t) ++ (be2 (v.length + 4)))))) rfl rfl rfl noStore (none_ok _ _) (Eq.trans (r_cat rfl rfl rfl (by simp only [bstr_size, size_lit, List.length_append, be2_len, be4_len, be1_len, List.length_replicate, List.length_cons, List.length_nil, List.size_toArray]; omega)) (by rw [bstr_app] <;> rfl)) ?_
 refine PQ.pure (dst := (some 17)) (v := (Pt n 0 1)) rfl rfl rfl noStore (none_ok _ _) rfl ?_
 refine PQ.pure (dst := (some 18)) (v := (.string (bstr v))) rfl rfl rfl (app [(n, some ⟨[[(.int .i64 ((t : Nat) : Int)), (.string (bstr v))]], 2, 79, true⟩)] noStore) (seen_one (V := []) (D := [(n, some ⟨[[(.int .i64 ((t : Nat) : Int)), (.string (bstr v))]], 2, 79, true⟩)]) (by kernel_rfl) get_here) (r_load1 rfl rfl rfl rfl rfl get_here rfl rfl) ?_
 refine PQ.pure (dst := (some 19)) (v := (.string (bstr (((be2 t) ++ (be2 (v.length + 4))) ++ v)))) rfl rfl rfl noStore (none_ok _ _) (Eq.trans (r_cat rfl rfl rfl (by simp only [bstr_size, size_lit, List.length_append, be2_len, be4_len, be1_len, List.length_replicate, List.length_cons, List.length_nil, List.size_toArray]; omega)) (by rw [bstr_app] <;> rfl)) ?_
 refine PQ.callP (dst := (some 20)) (all := [(.string (bstr (((be2 t) ++ (be2 (v.length + 4))) ++ v)))]) (v := (.string (bstr (pL t v)))) _ (hd.of (by omega) (kb1 (by omega))) rfl rfl rfl rfl rfl rfl rfl rfl (seen_any (V := []) (D := [(n, some ⟨[[(.int .i64 ((t : Nat) : Int)), (.string (bstr v))]], 2, 79, true⟩)]) (by kernel_rfl)) (lRF (be2 t ++ be2 (v.length + 4) ++ v) (by rw [pL_len]; omega)) ?_
 intro n4 hn4
 refine PQ.pure (dst := (some 2)) (v := (.string (bstr (pL t v)))) rfl rfl rfl noStore (none_ok _ _) rfl ?_
 refine PQ.done (d := []) (by kernel_rfl) ?_
 intro _
 refine RA.ret env_ok ?_
 refine ⟨.inr rfl, [(.string (bstr (pL t v)))], (resL_cons rfl resL_nil), rfl, (kc1 (by omega))⟩
end Go.Proofs.Ytgajcmanompmcaa.Vt
