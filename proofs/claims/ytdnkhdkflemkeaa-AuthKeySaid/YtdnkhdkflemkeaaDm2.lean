/- Dm2: walks through functions of the program, by the calculus; written by a program of this workplace. -/
import Derived.Test.YtdnkhdkflemkeaaDm1
import Derived.Test.YtdnkhdkflemkeaaVm5
namespace Go.Proofs.Ytdnkhdkflemkeaa.Vt
open Go Go.Proofs Go.Proofs.YtdnkhdkflemkeaaV
set_option maxRecDepth 100000
set_option linter.unusedVariables false
set_option linter.unusedSimpArgs false
theorem mac0 : macF (ByteArray.mk #[]) (ByteArray.mk #[]) = ⟨#[251, 219, 29, 27, 24, 170, 108, 8, 50, 75, 125, 100, 183, 31, 183, 99, 112, 105, 14, 29]⟩ := by
  rw [macF, shaC_eq, L_append, shaC_eq, L_append]
  kernel_rfl
theorem or_xor_zero (d a b : UInt8) : d ||| (a ^^^ b) = 0 ↔ d = 0 ∧ a = b := by
  rw [UInt8.or_eq_zero_iff, UInt8.xor_eq_zero_iff]
theorem eq_of_get {s t : ByteArray} {N : Nat} (hs : s.size = N) (ht : t.size = N) (h : ∀ j, j < N → t.get! j = s.get! j) : s = t := by
  apply L_ext
  apply List.ext_getElem?
  intro i
  rcases Nat.lt_or_ge i N with hi | hi
  · rw [L_get s i (by omega), L_get t i (by omega), h i hi]
  · rw [List.getElem?_eq_none (by rw [L_len]; omega), List.getElem?_eq_none (by rw [L_len]; omega)]
theorem is_done {sl w : ByteArray} {d : UInt8} {i : Nat} (hw : w.size = 20) (hs : sl.size = 20) (hi : i = 20) (hd : d = 0 ↔ ∀ j, j < i → w.get! j = sl.get! j) : one [Value.bool (decide (((d.toNat : Nat) : Int) = 0))] = .bool (decide (sl = w)) := by
  subst hi
  have h1 : (((d.toNat : Nat) : Int) = 0) ↔ d = 0 := by
    rw [← UInt8.toNat_inj]
    show _ ↔ d.toNat = 0
    omega
  rw [one, decide_eq_decide.2 (h1.trans (hd.trans ⟨fun h => eq_of_get hs hw h, fun h j _ => by rw [h]⟩))]
theorem is_not {sl w : ByteArray} (hw : w.size = 20) (hs : ¬ sl.size = 20) : one [Value.bool false] = .bool (decide (sl = w)) := by
  rw [one, decide_eq_false (fun h => hs (by rw [h, hw]))]
theorem bent_done {w : ByteArray} {c1 : UInt8} {i : Nat} (hi : i < 20) (hw : (L w).length = 20 := by rfl) : one [Value.bool ((decide (bstr ((((L w).set i ((L w).getD i 0 ^^^ c1)).drop 0).take 20) = w)) == (decide (((c1.toNat : Nat) : Int) = 0)))] = .bool true := by
  rw [one, List.drop_zero, List.take_of_length_le (by rw [List.length_set]; omega)]
  have h1 : (((c1.toNat : Nat) : Int) = 0) ↔ c1 = 0 := by
    rw [← UInt8.toNat_inj]
    show _ ↔ c1.toNat = 0
    omega
  have h2 : bstr ((L w).set i ((L w).getD i 0 ^^^ c1)) = w ↔ c1 = 0 := by
    constructor
    · intro h
      have h3 : (L (bstr ((L w).set i ((L w).getD i 0 ^^^ c1)))).getD i 0 = (L w).getD i 0 := by rw [h]
      rw [L_bstr, lset_self (by omega)] at h3
      have h4 : ((L w).getD i 0 ^^^ c1) ^^^ (L w).getD i 0 = (L w).getD i 0 ^^^ (L w).getD i 0 := by rw [h3]
      rw [UInt8.xor_self, UInt8.xor_comm, ← UInt8.xor_assoc, UInt8.xor_self, UInt8.zero_xor] at h4
      exact h4
    · rintro rfl
      apply L_ext
      rw [L_bstr, UInt8.xor_zero]
      apply List.ext_getElem?
      intro j
      by_cases hj : i = j
      · subst hj
        rw [List.getElem?_set_self (by omega), List.getD_eq_getElem?_getD, List.getElem?_eq_getElem (by omega)]
        rfl
      · rw [List.getElem?_set_ne hj]
  rw [decide_eq_decide.2 (h2.trans h1.symm), beq_self_eq_true]
theorem s17 {σ : Store}    : PS Try.prog noDen 17 [] σ (.bool true) := by
 refine PS.body (E := env) env_ok rfl rfl (by show _ ≤ _; exact of_decide_eq_true (by kernel_rfl)) (fun n hd => ?_)
 refine RA.seq hd ?_
 refine RA.region env_ok ?_
 refine OA.p (some 0) (.bool false) rfl rfl rfl rfl ?_
 refine OA.nil ?_
 intro _
 refine RA.seq hd ?_
 refine RA.region env_ok ?_
 refine OA.callP (dst := (some 1)) (all := [(.string (ByteArray.mk #[])), (.string (ByteArray.mk #[]))]) (v := (.string (macF (ByteArray.mk #[]) (ByteArray.mk #[])))) (hd.up (by omega)) rfl rfl rfl rfl rfl rfl rfl rfl (s18 (ByteArray.mk #[]) (ByteArray.mk #[]) (by first | decide | omega) (by first | decide | omega)) ?_
 intro n1 hn1
 refine OA.p (some 2) (.bool true) rfl rfl rfl (Eq.trans (r_eqlS rfl rfl rfl) (by rw [decide_eq_true mac0])) ?_
 refine OA.p (some 0) (.bool true) rfl rfl rfl rfl ?_
 refine OA.nil ?_
 intro _
 refine RA.ret env_ok ?_
 refine ⟨.inr rfl, [(.bool true)], (resL_cons rfl resL_nil), rfl, (fun i hi => by cases hi)⟩

theorem s20 {σ : Store} (key s sl : ByteArray) (hk : key.size < 4294967296) (hs : s.size < 2147483648)   : PS Try.prog noDen 20 [(.string key), (.string s), (.string sl)] σ (.bool (decide (sl = macF key s))) := by
 refine PS.body (E := env) env_ok rfl rfl (by show _ ≤ _; exact of_decide_eq_true (by kernel_rfl)) (fun n hd => ?_)
 refine RA.seq hd ?_
 refine RA.region env_ok ?_
 refine OA.p (some 6) (.bool false) rfl rfl rfl rfl ?_
 refine OA.nil ?_
 intro _
 refine RA.seq hd ?_
 refine RA.region env_ok ?_
 refine OA.p (some 10) (.string key) rfl rfl rfl rfl ?_
 refine OA.p (some 11) (.string s) rfl rfl rfl rfl ?_
 refine OA.callP (dst := (some 12)) (all := [(.string key), (.string s)]) (v := (.string (macF key s))) (hd.up (by omega)) rfl rfl rfl rfl rfl rfl rfl rfl (s18 key s (by first | decide | omega) (by first | decide | omega)) ?_
 intro n1 hn1
 refine OA.p (some 7) (.string (macF key s)) rfl rfl rfl rfl ?_
 refine OA.nil ?_
 intro _
 refine RA.seq hd ?_
 refine RA.seq hd ?_
 refine RA.region env_ok ?_
 refine OA.p (some 13) (.string sl) rfl rfl rfl rfl ?_
 refine OA.p (some 14) (.int .i64 ((sl.size : Nat) : Int)) rfl rfl rfl rfl ?_
 refine OA.p (some 15) (.string (macF key s)) rfl rfl rfl rfl ?_
 refine OA.p (some 16) (.int .i64 20) rfl rfl rfl (Eq.trans (show _ = some (Value.int .i64 (((macF key s).size : Nat) : Int), _, []) from rfl) (by rw [macF_size] <;> rfl)) ?_
 by_cases hc1 : ((sl.size : Nat) : Int) ≠ 20
 ·
  refine OA.p (some 17) (.bool true) rfl rfl rfl (Eq.trans (r_bin rfl rfl rfl (b_neq rfl)) (dT hc1)) ?_
  refine OA.nil ?_
  intro _
  refine RA.condT rfl ?_
  refine RA.seq hd ?_
  refine RA.region env_ok ?_
  refine OA.p (some 6) (.bool false) rfl rfl rfl rfl ?_
  refine OA.nil ?_
  intro _
  refine RA.ret env_ok ?_
  refine ⟨.inr rfl, [(.bool false)], (resL_cons rfl resL_nil), (is_not rfl (by omega)), (fun i hi => by cases hi)⟩
 ·
  refine OA.p (some 17) (.bool false) rfl rfl rfl (Eq.trans (r_bin rfl rfl rfl (b_neq rfl)) (dF hc1)) ?_
  refine OA.nil ?_
  intro _
  refine RA.condF rfl ?_
  refine RA.skip env_ok ?_
  intro _
  refine RA.seq hd ?_
  refine RA.region env_ok ?_
  refine OA.p (some 8) (.int .u8 0) rfl rfl rfl rfl ?_
  refine OA.nil ?_
  intro _
  refine RA.seq hd ?_
  refine RA.seq hd ?_
  refine RA.region env_ok ?_
  refine OA.p (some 18) (.string (macF key s)) rfl rfl rfl rfl ?_
  refine OA.p (some 19) (.int .i64 20) rfl rfl rfl (Eq.trans (show _ = some (Value.int .i64 (((macF key s).size : Nat) : Int), _, []) from rfl) (by rw [macF_size] <;> rfl)) ?_
  refine OA.p (some 20) (.int .i64 0) rfl rfl rfl rfl ?_
  refine OA.nil ?_
  intro _
  refine RA.block ?_
  have hms : (macF key s).size = 20 := rfl
  have hss : sl.size = 20 := by omega
  refine RA.loop hd (fun kk_ τ n' D => ∃ i : Nat, ∃ d : UInt8,  kk_ = (20 - i) ∧ n1 ≤ n' ∧ Has τ [(2, (.string sl)), (7, (.string (macF key s))), (8, (.int .u8 ((d.toNat : Nat) : Int))), (19, (.int .i64 20)), (20, (.int .i64 ((i : Nat) : Int)))] ∧ D = [] ∧ (∀ i ∈ keys D, i < n') ∧ i ≤ 20 ∧ (d = 0 ↔ ∀ j, j < i → (macF key s).get! j = sl.get! j)) ((20 - 0)) ⟨0, (0 : UInt8), rfl, by omega, ⟨rfl, rfl, rfl, rfl, rfl, trivial⟩, rfl, (fun i hi => by cases hi), ⟨by omega, ⟨fun _ j hj => by omega, fun _ => rfl⟩⟩⟩ ?_
  rintro kn2 τ2 n2 _ ⟨i, d, rfl, hn2, hHn2, rfl, hKn2, hIn2⟩
  rw [Has.eq hHn2]
  simp only [keys, List.map, List.forall_mem_cons, List.mem_cons, List.not_mem_nil, false_imp_iff, implies_true, and_true] at hKn2
  obtain ⟨hi, hz⟩ := hIn2
  refine RA.seq hd ?_
  refine RA.region env_ok ?_
  by_cases hc2 : ((i : Nat) : Int) < 20
  ·
   refine OA.p (some 21) (.bool true) rfl rfl rfl (Eq.trans (r_bin rfl rfl rfl (b_lss rfl)) (dT hc2)) ?_
   refine OA.nil ?_
   intro _
   refine RA.seq hd ?_
   refine RA.condT rfl ?_
   refine RA.skip env_ok ?_
   intro _
   refine RA.seq hd ?_
   refine RA.block ?_
   refine RA.seq hd ?_
   refine RA.region env_ok ?_
   refine OA.p (some 22) (.int .i64 ((i : Nat) : Int)) rfl rfl rfl rfl ?_
   refine OA.p (some 9) (.int .i64 ((i : Nat) : Int)) rfl rfl rfl rfl ?_
   refine OA.nil ?_
   intro _
   refine RA.par (md := [some [], some [], some [], some [], some [], some [], some [], some [], some [], some []]) env_ok (hd.up (by omega)) (by kernel_rfl) ?_
   refine PQ.pure (dst := (some 23)) (v := (.int .u8 ((d.toNat : Nat) : Int))) rfl rfl rfl noStore (none_ok _ _) rfl ?_
   refine PQ.pure (dst := (some 24)) (v := (.string (macF key s))) rfl rfl rfl noStore (none_ok _ _) rfl ?_
   refine PQ.pure (dst := (some 25)) (v := (.int .i64 ((i : Nat) : Int))) rfl rfl rfl noStore (none_ok _ _) rfl ?_
   refine PQ.pure (dst := (some 26)) (v := (.int .u8 (((macF key s).get! i).toNat : Nat))) rfl rfl rfl noStore (none_ok _ _) (r_idxS (l := i) rfl rfl rfl rfl rfl (by omega) (by omega)) ?_
   refine PQ.pure (dst := (some 27)) (v := (.string sl)) rfl rfl rfl noStore (none_ok _ _) rfl ?_
   refine PQ.pure (dst := (some 28)) (v := (.int .i64 ((i : Nat) : Int))) rfl rfl rfl noStore (none_ok _ _) rfl ?_
   refine PQ.pure (dst := (some 29)) (v := (.int .u8 ((sl.get! i).toNat : Nat))) rfl rfl rfl noStore (none_ok _ _) (r_idxS (l := i) rfl rfl rfl rfl rfl (by omega) (by omega)) ?_
   refine PQ.pure (dst := (some 30)) (v := (.int .u8 (((((macF key s).get! i) ^^^ (sl.get! i)).toNat : Nat) : Int))) rfl rfl rfl noStore (none_ok _ _) (r_bin rfl rfl rfl (b_xor8 ((macF key s).get! i) (sl.get! i))) ?_
   refine PQ.pure (dst := (some 31)) (v := (.int .u8 (((d ||| (((macF key s).get! i) ^^^ (sl.get! i))).toNat : Nat) : Int))) rfl rfl rfl noStore (none_ok _ _) (r_bin rfl rfl rfl (b_or8' d (((macF key s).get! i) ^^^ (sl.get! i)))) ?_
   refine PQ.pure (dst := (some 8)) (v := (.int .u8 (((d ||| (((macF key s).get! i) ^^^ (sl.get! i))).toNat : Nat) : Int))) rfl rfl rfl noStore (none_ok _ _) rfl ?_
   refine PQ.done (d := []) (by kernel_rfl) ?_
   intro _
   refine RA.region env_ok ?_
   refine OA.p (some 32) (.int .i64 (((i + 1) : Nat) : Int)) rfl rfl rfl (r_bin rfl rfl rfl (b_add (i64_eq (by omega)))) ?_
   refine OA.p (some 20) (.int .i64 (((i + 1) : Nat) : Int)) rfl rfl rfl rfl ?_
   refine OA.nil ?_
   refine ⟨(20 - (i + 1)), by omega, [], (Less.refl _ _ _), (i + 1), (d ||| (((macF key s).get! i) ^^^ (sl.get! i))), rfl, by omega, ⟨rfl, rfl, rfl, rfl, rfl, trivial⟩, rfl, (fun i hi => by cases hi), ⟨by omega, by rw [or_xor_zero, hz]; exact ⟨fun h j hj => (Nat.lt_or_ge j i).elim (fun h2 => h.1 j h2) (fun h2 => by rw [show j = i from by omega]; exact h.2), fun h => ⟨fun j hj => h j (by omega), h i (by omega)⟩⟩⟩⟩
  ·
   refine OA.p (some 21) (.bool false) rfl rfl rfl (Eq.trans (r_bin rfl rfl rfl (b_lss rfl)) (dF hc2)) ?_
   refine OA.nil ?_
   intro _
   refine RA.seq hd ?_
   refine RA.condF rfl ?_
   refine RA.exit env_ok ?_
   intro _
   refine RA.seq hd ?_
   refine RA.region env_ok ?_
   refine OA.p (some 33) (.int .u8 ((d.toNat : Nat) : Int)) rfl rfl rfl rfl ?_
   refine OA.p (some 34) (.bool (decide (((d.toNat : Nat) : Int) = 0))) rfl rfl rfl (r_bin rfl rfl rfl (b_eql rfl)) ?_
   refine OA.p (some 6) (.bool (decide (((d.toNat : Nat) : Int) = 0))) rfl rfl rfl rfl ?_
   refine OA.nil ?_
   intro _
   refine RA.ret env_ok ?_
   refine ⟨.inr rfl, [(.bool (decide (((d.toNat : Nat) : Int) = 0)))], (resL_cons rfl resL_nil), (is_done hms hss (by omega) hz), (fun i hi => by cases hi)⟩

theorem s5 {σ : Store} (key s : ByteArray)   : PS Try.prog noDen 5 [(.string key), (.string s)] σ (.bool true) := by
 refine PS.body (E := env) env_ok rfl rfl (by show _ ≤ _; exact of_decide_eq_true (by kernel_rfl)) (fun n hd => ?_)
 refine RA.seq hd ?_
 refine RA.region env_ok ?_
 refine OA.p (some 4) (.bool false) rfl rfl rfl rfl ?_
 refine OA.nil ?_
 intro _
 refine RA.seq hd ?_
 refine RA.par (md := [some [], some [], some [], some [], some [], some [], some [], some [], some [], some [], some [], some []]) env_ok (hd.up (by omega)) (by kernel_rfl) ?_
 refine PQ.pure (dst := (some 7)) (v := (.string key)) rfl rfl rfl noStore (none_ok _ _) rfl ?_
 refine PQ.pure (dst := (some 8)) (v := (.string key)) rfl rfl rfl noStore (none_ok _ _) rfl ?_
 refine PQ.pure (dst := (some 9)) (v := (.int .i64 ((key.size : Nat) : Int))) rfl rfl rfl noStore (none_ok _ _) rfl ?_
 refine PQ.pure (dst := (some 10)) (v := (.int .i64 (((min key.size 150) : Nat) : Int))) rfl rfl rfl noStore (none_ok _ _) (r_min (a := key.size) (b := 150) rfl rfl rfl) ?_
 refine PQ.pure (dst := (some 11)) (v := (.string (key.extract 0 (min key.size 150)))) rfl rfl rfl noStore (none_ok _ _) (r_cut (a := 0) (b := (min key.size 150)) rfl rfl (fun _ => rfl) (fun _ => rfl) rfl rfl rfl bound_nat (by omega) (by omega) rfl) ?_
 refine PQ.pure (dst := (some 12)) (v := (.string s)) rfl rfl rfl noStore (none_ok _ _) rfl ?_
 refine PQ.pure (dst := (some 13)) (v := (.string s)) rfl rfl rfl noStore (none_ok _ _) rfl ?_
 refine PQ.pure (dst := (some 14)) (v := (.int .i64 ((s.size : Nat) : Int))) rfl rfl rfl noStore (none_ok _ _) rfl ?_
 refine PQ.pure (dst := (some 15)) (v := (.int .i64 (((min s.size 500) : Nat) : Int))) rfl rfl rfl noStore (none_ok _ _) (r_min (a := s.size) (b := 500) rfl rfl rfl) ?_
 refine PQ.pure (dst := (some 16)) (v := (.string (s.extract 0 (min s.size 500)))) rfl rfl rfl noStore (none_ok _ _) (r_cut (a := 0) (b := (min s.size 500)) rfl rfl (fun _ => rfl) (fun _ => rfl) rfl rfl rfl bound_nat (by omega) (by omega) rfl) ?_
 refine PQ.pure (dst := (some 5)) (v := (.string (key.extract 0 (min key.size 150)))) rfl rfl rfl noStore (none_ok _ _) rfl ?_
 refine PQ.pure (dst := (some 6)) (v := (.string (s.extract 0 (min s.size 500)))) rfl rfl rfl noStore (none_ok _ _) rfl ?_
 refine PQ.done (d := []) (by kernel_rfl) ?_
 intro _
 refine RA.seq hd ?_
 refine RA.region env_ok ?_
 refine OA.callP (dst := (some 17)) (all := []) (v := (.bool true)) (hd.up (by omega)) rfl rfl rfl rfl rfl rfl rfl rfl s17 ?_
 intro n1 hn1
 refine OA.p (some 18) (.bool true) rfl rfl rfl rfl ?_
 refine OA.p (some 19) (.string (key.extract 0 (min key.size 150))) rfl rfl rfl rfl ?_
 refine OA.p (some 20) (.string (s.extract 0 (min s.size 500))) rfl rfl rfl rfl ?_
 refine OA.callP (dst := (some 21)) (all := [(.string (key.extract 0 (min key.size 150))), (.string (s.extract 0 (min s.size 500)))]) (v := (.string (macF (key.extract 0 (min key.size 150)) (s.extract 0 (min s.size 500))))) (hd.up (by omega)) rfl rfl rfl rfl rfl rfl rfl rfl (s18 (key.extract 0 (min key.size 150)) (s.extract 0 (min s.size 500)) (by rw [size_cut _ _ _ (by omega)]; omega) (by rw [size_cut _ _ _ (by omega)]; omega)) ?_
 intro n2 hn2
 refine OA.p (some 22) (.string (key.extract 0 (min key.size 150))) rfl rfl rfl rfl ?_
 refine OA.p (some 23) (.string (s.extract 0 (min s.size 500))) rfl rfl rfl rfl ?_
 refine OA.callP (dst := (some 24)) (all := [(.string (key.extract 0 (min key.size 150))), (.string (s.extract 0 (min s.size 500)))]) (v := (.string (macF (key.extract 0 (min key.size 150)) (s.extract 0 (min s.size 500))))) (hd.up (by omega)) rfl rfl rfl rfl rfl rfl rfl rfl (s19 (key.extract 0 (min key.size 150)) (s.extract 0 (min s.size 500)) (by rw [size_cut _ _ _ (by omega)]; omega) (by rw [size_cut _ _ _ (by omega)]; omega)) ?_
 intro n3 hn3
 refine OA.p (some 25) (.bool true) rfl rfl rfl (Eq.trans (r_eqlS rfl rfl rfl) (by rw [decide_eq_true rfl] <;> rfl)) ?_
 refine OA.p (some 26) (.bool true) rfl rfl rfl rfl ?_
 refine OA.p (some 4) (.bool true) rfl rfl rfl rfl ?_
 refine OA.nil ?_
 intro _
 refine RA.ret env_ok ?_
 refine ⟨.inr rfl, [(.bool true)], (resL_cons rfl resL_nil), rfl, (fun i hi => by cases hi)⟩

theorem s6 {σ : Store} (key s sl : ByteArray) (hs : sl.size ≤ 9223372036854775807)   : PS Try.prog noDen 6 [(.string key), (.string s), (.string sl)] σ (.bool true) := by
 refine PS.body (E := env) env_ok rfl rfl (by show _ ≤ _; exact of_decide_eq_true (by kernel_rfl)) (fun n hd => ?_)
 refine RA.seq hd ?_
 refine RA.region env_ok ?_
 refine OA.p (some 6) (.bool false) rfl rfl rfl rfl ?_
 refine OA.nil ?_
 intro _
 refine RA.seq hd ?_
 refine RA.par (md := [some [], some [], some [], some [], some [], some [], some [], some [], some [], some [], some [], some []]) env_ok (hd.up (by omega)) (by kernel_rfl) ?_
 refine PQ.pure (dst := (some 10)) (v := (.string key)) rfl rfl rfl noStore (none_ok _ _) rfl ?_
 refine PQ.pure (dst := (some 11)) (v := (.string key)) rfl rfl rfl noStore (none_ok _ _) rfl ?_
 refine PQ.pure (dst := (some 12)) (v := (.int .i64 ((key.size : Nat) : Int))) rfl rfl rfl noStore (none_ok _ _) rfl ?_
 refine PQ.pure (dst := (some 13)) (v := (.int .i64 (((min key.size 100) : Nat) : Int))) rfl rfl rfl noStore (none_ok _ _) (r_min (a := key.size) (b := 100) rfl rfl rfl) ?_
 refine PQ.pure (dst := (some 14)) (v := (.string (key.extract 0 (min key.size 100)))) rfl rfl rfl noStore (none_ok _ _) (r_cut (a := 0) (b := (min key.size 100)) rfl rfl (fun _ => rfl) (fun _ => rfl) rfl rfl rfl bound_nat (by omega) (by omega) rfl) ?_
 refine PQ.pure (dst := (some 15)) (v := (.string s)) rfl rfl rfl noStore (none_ok _ _) rfl ?_
 refine PQ.pure (dst := (some 16)) (v := (.string s)) rfl rfl rfl noStore (none_ok _ _) rfl ?_
 refine PQ.pure (dst := (some 17)) (v := (.int .i64 ((s.size : Nat) : Int))) rfl rfl rfl noStore (none_ok _ _) rfl ?_
 refine PQ.pure (dst := (some 18)) (v := (.int .i64 (((min s.size 200) : Nat) : Int))) rfl rfl rfl noStore (none_ok _ _) (r_min (a := s.size) (b := 200) rfl rfl rfl) ?_
 refine PQ.pure (dst := (some 19)) (v := (.string (s.extract 0 (min s.size 200)))) rfl rfl rfl noStore (none_ok _ _) (r_cut (a := 0) (b := (min s.size 200)) rfl rfl (fun _ => rfl) (fun _ => rfl) rfl rfl rfl bound_nat (by omega) (by omega) rfl) ?_
 refine PQ.pure (dst := (some 7)) (v := (.string (key.extract 0 (min key.size 100)))) rfl rfl rfl noStore (none_ok _ _) rfl ?_
 refine PQ.pure (dst := (some 8)) (v := (.string (s.extract 0 (min s.size 200)))) rfl rfl rfl noStore (none_ok _ _) rfl ?_
 refine PQ.done (d := []) (by kernel_rfl) ?_
 intro _
 refine RA.seq hd ?_
 refine RA.region env_ok ?_
 refine OA.p (some 20) (.string (key.extract 0 (min key.size 100))) rfl rfl rfl rfl ?_
 refine OA.p (some 21) (.string (s.extract 0 (min s.size 200))) rfl rfl rfl rfl ?_
 refine OA.callP (dst := (some 22)) (all := [(.string (key.extract 0 (min key.size 100))), (.string (s.extract 0 (min s.size 200)))]) (v := (.string (macF (key.extract 0 (min key.size 100)) (s.extract 0 (min s.size 200))))) (hd.up (by omega)) rfl rfl rfl rfl rfl rfl rfl rfl (s19 (key.extract 0 (min key.size 100)) (s.extract 0 (min s.size 200)) (by rw [size_cut _ _ _ (by omega)]; omega) (by rw [size_cut _ _ _ (by omega)]; omega)) ?_
 intro n1 hn1
 refine OA.p (some 9) (.string (macF (key.extract 0 (min key.size 100)) (s.extract 0 (min s.size 200)))) rfl rfl rfl rfl ?_
 refine OA.nil ?_
 intro _
 refine RA.seq hd ?_
 refine RA.region env_ok ?_
 refine OA.callP (dst := (some 23)) (all := []) (v := (.bool true)) (hd.up (by omega)) rfl rfl rfl rfl rfl rfl rfl rfl s17 ?_
 intro n2 hn2
 refine OA.p (some 24) (.bool true) rfl rfl rfl rfl ?_
 refine OA.p (some 25) (.string (key.extract 0 (min key.size 100))) rfl rfl rfl rfl ?_
 refine OA.p (some 26) (.string (s.extract 0 (min s.size 200))) rfl rfl rfl rfl ?_
 refine OA.p (some 27) (.string (macF (key.extract 0 (min key.size 100)) (s.extract 0 (min s.size 200)))) rfl rfl rfl rfl ?_
 refine OA.callP (dst := (some 28)) (all := [(.string (key.extract 0 (min key.size 100))), (.string (s.extract 0 (min s.size 200))), (.string (macF (key.extract 0 (min key.size 100)) (s.extract 0 (min s.size 200))))]) (v := (.bool true)) (hd.up (by omega)) rfl rfl rfl rfl rfl rfl rfl rfl (PS.to (s20 (key.extract 0 (min key.size 100)) (s.extract 0 (min s.size 200)) (macF (key.extract 0 (min key.size 100)) (s.extract 0 (min s.size 200))) (by rw [size_cut _ _ _ (by omega)]; omega) (by rw [size_cut _ _ _ (by omega)]; omega)) (congrArg Value.bool (decide_eq_true rfl))) ?_
 intro n3 hn3
 refine OA.p (some 29) (.bool true) rfl rfl rfl rfl ?_
 refine OA.p (some 30) (.bool true) rfl rfl rfl rfl ?_
 refine OA.p (some 31) (.string (key.extract 0 (min key.size 100))) rfl rfl rfl rfl ?_
 refine OA.p (some 32) (.string (s.extract 0 (min s.size 200))) rfl rfl rfl rfl ?_
 refine OA.p (some 33) (.string sl) rfl rfl rfl rfl ?_
 by_cases hc1 : sl = (macF (key.extract 0 (min key.size 100)) (s.extract 0 (min s.size 200)))
 ·
  refine OA.callP (dst := (some 34)) (all := [(.string (key.extract 0 (min key.size 100))), (.string (s.extract 0 (min s.size 200))), (.string sl)]) (v := (.bool true)) (hd.up (by omega)) rfl rfl rfl rfl rfl rfl rfl rfl (PS.to (s20 (key.extract 0 (min key.size 100)) (s.extract 0 (min s.size 200)) sl (by rw [size_cut _ _ _ (by omega)]; omega) (by rw [size_cut _ _ _ (by omega)]; omega)) (show (.bool (decide (sl = (macF (key.extract 0 (min key.size 100)) (s.extract 0 (min s.size 200)))))) = ((.bool true) : Value) from (by first | (rw [decide_eq_true hc1]; done) | (rw [decide_eq_true hc1]; rfl)))) ?_
  intro n4 hn4
  refine OA.p (some 35) (.string sl) rfl rfl rfl rfl ?_
  refine OA.p (some 36) (.string (macF (key.extract 0 (min key.size 100)) (s.extract 0 (min s.size 200)))) rfl rfl rfl rfl ?_
  refine OA.p (some 37) (.bool true) rfl rfl rfl (Eq.trans (r_eqlS rfl rfl rfl) (dT hc1)) ?_
  refine OA.p (some 38) (.bool true) rfl rfl rfl rfl ?_
  refine OA.p (some 39) (.bool true) rfl rfl rfl rfl ?_
  refine OA.p (some 40) (.bool true) rfl rfl rfl rfl ?_
  refine OA.p (some 41) (.string (key.extract 0 (min key.size 100))) rfl rfl rfl rfl ?_
  refine OA.p (some 42) (.string (s.extract 0 (min s.size 200))) rfl rfl rfl rfl ?_
  refine OA.p (some 43) (.string (macF (key.extract 0 (min key.size 100)) (s.extract 0 (min s.size 200)))) rfl rfl rfl rfl ?_
  refine OA.p (some 44) (.string ((macF (key.extract 0 (min key.size 100)) (s.extract 0 (min s.size 200))) ++ (ByteArray.mk #[120]))) rfl rfl rfl (r_cat rfl rfl rfl (by (try simp only [ByteArray.size_append, bstr_size, size_lit, List.size_toArray, List.length_cons, List.length_nil, List.length_take, List.length_drop, List.length_replicate, macF_size]); try omega)) ?_
  refine OA.callP (dst := (some 45)) (all := [(.string (key.extract 0 (min key.size 100))), (.string (s.extract 0 (min s.size 200))), (.string ((macF (key.extract 0 (min key.size 100)) (s.extract 0 (min s.size 200))) ++ (ByteArray.mk #[120])))]) (v := (.bool false)) (hd.up (by omega)) rfl rfl rfl rfl rfl rfl rfl rfl (PS.to (s20 (key.extract 0 (min key.size 100)) (s.extract 0 (min s.size 200)) ((macF (key.extract 0 (min key.size 100)) (s.extract 0 (min s.size 200))) ++ (ByteArray.mk #[120])) (by rw [size_cut _ _ _ (by omega)]; omega) (by rw [size_cut _ _ _ (by omega)]; omega)) (congrArg Value.bool (decide_eq_false (fun h => by have hh := congrArg ByteArray.size h; first | (rw [ByteArray.size_append, macF_size] at hh; exact absurd hh (by decide)) | (rw [size_cut _ _ _ (by rw [macF_size]; decide), macF_size] at hh; exact absurd hh (by decide)))))) ?_
  intro n5 hn5
  refine OA.p (some 46) (.bool true) rfl rfl rfl rfl ?_
  refine OA.p (some 47) (.bool true) rfl rfl rfl rfl ?_
  refine OA.p (some 48) (.bool true) rfl rfl rfl rfl ?_
  refine OA.p (some 49) (.string (key.extract 0 (min key.size 100))) rfl rfl rfl rfl ?_
  refine OA.p (some 50) (.string (s.extract 0 (min s.size 200))) rfl rfl rfl rfl ?_
  refine OA.p (some 51) (.string (macF (key.extract 0 (min key.size 100)) (s.extract 0 (min s.size 200)))) rfl rfl rfl rfl ?_
  refine OA.p (some 52) (.string ((macF (key.extract 0 (min key.size 100)) (s.extract 0 (min s.size 200))).extract 0 19)) rfl rfl rfl (r_cut (a := 0) (b := 19) rfl rfl (fun _ => rfl) (fun _ => rfl) rfl rfl rfl rfl (by omega) (by rw [macF_size]; omega) rfl) ?_
  refine OA.callP (dst := (some 53)) (all := [(.string (key.extract 0 (min key.size 100))), (.string (s.extract 0 (min s.size 200))), (.string ((macF (key.extract 0 (min key.size 100)) (s.extract 0 (min s.size 200))).extract 0 19))]) (v := (.bool false)) (hd.up (by omega)) rfl rfl rfl rfl rfl rfl rfl rfl (PS.to (s20 (key.extract 0 (min key.size 100)) (s.extract 0 (min s.size 200)) ((macF (key.extract 0 (min key.size 100)) (s.extract 0 (min s.size 200))).extract 0 19) (by rw [size_cut _ _ _ (by omega)]; omega) (by rw [size_cut _ _ _ (by omega)]; omega)) (congrArg Value.bool (decide_eq_false (fun h => by have hh := congrArg ByteArray.size h; first | (rw [ByteArray.size_append, macF_size] at hh; exact absurd hh (by decide)) | (rw [size_cut _ _ _ (by rw [macF_size]; decide), macF_size] at hh; exact absurd hh (by decide)))))) ?_
  intro n6 hn6
  refine OA.p (some 54) (.bool true) rfl rfl rfl rfl ?_
  refine OA.p (some 55) (.bool true) rfl rfl rfl rfl ?_
  refine OA.p (some 6) (.bool true) rfl rfl rfl rfl ?_
  refine OA.nil ?_
  intro _
  refine RA.rebase [(0, (.string key)), (1, (.string s)), (2, (.string sl)), (6, (.bool true)), (7, (.string (key.extract 0 (min key.size 100)))), (8, (.string (s.extract 0 (min s.size 200)))), (9, (.string (macF (key.extract 0 (min key.size 100)) (s.extract 0 (min s.size 200)))))] ⟨rfl, rfl, rfl, rfl, rfl, rfl, rfl, trivial⟩ (fun τr7 => ?_)
  refine RA.ret env_ok ?_
  refine ⟨.inr rfl, [(.bool true)], (resL_cons rfl resL_nil), rfl, (fun i hi => by cases hi)⟩
 ·
  refine OA.callP (dst := (some 34)) (all := [(.string (key.extract 0 (min key.size 100))), (.string (s.extract 0 (min s.size 200))), (.string sl)]) (v := (.bool false)) (hd.up (by omega)) rfl rfl rfl rfl rfl rfl rfl rfl (PS.to (s20 (key.extract 0 (min key.size 100)) (s.extract 0 (min s.size 200)) sl (by rw [size_cut _ _ _ (by omega)]; omega) (by rw [size_cut _ _ _ (by omega)]; omega)) (show (.bool (decide (sl = (macF (key.extract 0 (min key.size 100)) (s.extract 0 (min s.size 200)))))) = ((.bool false) : Value) from (by first | (rw [decide_eq_false hc1]; done) | (rw [decide_eq_false hc1]; rfl)))) ?_
  intro n8 hn8
  refine OA.p (some 35) (.string sl) rfl rfl rfl rfl ?_
  refine OA.p (some 36) (.string (macF (key.extract 0 (min key.size 100)) (s.extract 0 (min s.size 200)))) rfl rfl rfl rfl ?_
  refine OA.p (some 37) (.bool false) rfl rfl rfl (Eq.trans (r_eqlS rfl rfl rfl) (dF hc1)) ?_
  refine OA.p (some 38) (.bool true) rfl rfl rfl rfl ?_
  refine OA.p (some 39) (.bool true) rfl rfl rfl rfl ?_
  refine OA.p (some 40) (.bool true) rfl rfl rfl rfl ?_
  refine OA.p (some 41) (.string (key.extract 0 (min key.size 100))) rfl rfl rfl rfl ?_
  refine OA.p (some 42) (.string (s.extract 0 (min s.size 200))) rfl rfl rfl rfl ?_
  refine OA.p (some 43) (.string (macF (key.extract 0 (min key.size 100)) (s.extract 0 (min s.size 200)))) rfl rfl rfl rfl ?_
  refine OA.p (some 44) (.string ((macF (key.extract 0 (min key.size 100)) (s.extract 0 (min s.size 200))) ++ (ByteArray.mk #[120]))) rfl rfl rfl (r_cat rfl rfl rfl (by (try simp only [ByteArray.size_append, bstr_size, size_lit, List.size_toArray, List.length_cons, List.length_nil, List.length_take, List.length_drop, List.length_replicate, macF_size]); try omega)) ?_
  refine OA.callP (dst := (some 45)) (all := [(.string (key.extract 0 (min key.size 100))), (.string (s.extract 0 (min s.size 200))), (.string ((macF (key.extract 0 (min key.size 100)) (s.extract 0 (min s.size 200))) ++ (ByteArray.mk #[120])))]) (v := (.bool false)) (hd.up (by omega)) rfl rfl rfl rfl rfl rfl rfl rfl (PS.to (s20 (key.extract 0 (min key.size 100)) (s.extract 0 (min s.size 200)) ((macF (key.extract 0 (min key.size 100)) (s.extract 0 (min s.size 200))) ++ (ByteArray.mk #[120])) (by rw [size_cut _ _ _ (by omega)]; omega) (by rw [size_cut _ _ _ (by omega)]; omega)) (congrArg Value.bool (decide_eq_false (fun h => by have hh := congrArg ByteArray.size h; first | (rw [ByteArray.size_append, macF_size] at hh; exact absurd hh (by decide)) | (rw [size_cut _ _ _ (by rw [macF_size]; decide), macF_size] at hh; exact absurd hh (by decide)))))) ?_
  intro n9 hn9
  refine OA.p (some 46) (.bool true) rfl rfl rfl rfl ?_
  refine OA.p (some 47) (.bool true) rfl rfl rfl rfl ?_
  refine OA.p (some 48) (.bool true) rfl rfl rfl rfl ?_
  refine OA.p (some 49) (.string (key.extract 0 (min key.size 100))) rfl rfl rfl rfl ?_
  refine OA.p (some 50) (.string (s.extract 0 (min s.size 200))) rfl rfl rfl rfl ?_
  refine OA.p (some 51) (.string (macF (key.extract 0 (min key.size 100)) (s.extract 0 (min s.size 200)))) rfl rfl rfl rfl ?_
  refine OA.p (some 52) (.string ((macF (key.extract 0 (min key.size 100)) (s.extract 0 (min s.size 200))).extract 0 19)) rfl rfl rfl (r_cut (a := 0) (b := 19) rfl rfl (fun _ => rfl) (fun _ => rfl) rfl rfl rfl rfl (by omega) (by rw [macF_size]; omega) rfl) ?_
  refine OA.callP (dst := (some 53)) (all := [(.string (key.extract 0 (min key.size 100))), (.string (s.extract 0 (min s.size 200))), (.string ((macF (key.extract 0 (min key.size 100)) (s.extract 0 (min s.size 200))).extract 0 19))]) (v := (.bool false)) (hd.up (by omega)) rfl rfl rfl rfl rfl rfl rfl rfl (PS.to (s20 (key.extract 0 (min key.size 100)) (s.extract 0 (min s.size 200)) ((macF (key.extract 0 (min key.size 100)) (s.extract 0 (min s.size 200))).extract 0 19) (by rw [size_cut _ _ _ (by omega)]; omega) (by rw [size_cut _ _ _ (by omega)]; omega)) (congrArg Value.bool (decide_eq_false (fun h => by have hh := congrArg ByteArray.size h; first | (rw [ByteArray.size_append, macF_size] at hh; exact absurd hh (by decide)) | (rw [size_cut _ _ _ (by rw [macF_size]; decide), macF_size] at hh; exact absurd hh (by decide)))))) ?_
  intro n10 hn10
  refine OA.p (some 54) (.bool true) rfl rfl rfl rfl ?_
  refine OA.p (some 55) (.bool true) rfl rfl rfl rfl ?_
  refine OA.p (some 6) (.bool true) rfl rfl rfl rfl ?_
  refine OA.nil ?_
  intro _
  refine RA.rebase [(0, (.string key)), (1, (.string s)), (2, (.string sl)), (6, (.bool true)), (7, (.string (key.extract 0 (min key.size 100)))), (8, (.string (s.extract 0 (min s.size 200)))), (9, (.string (macF (key.extract 0 (min key.size 100)) (s.extract 0 (min s.size 200)))))] ⟨rfl, rfl, rfl, rfl, rfl, rfl, rfl, trivial⟩ (fun τr11 => ?_)
  refine RA.ret env_ok ?_
  refine ⟨.inr rfl, [(.bool true)], (resL_cons rfl resL_nil), rfl, (fun i hi => by cases hi)⟩

theorem s7 {σ : Store} (key s : ByteArray) (c0 c1 : UInt8)   : PS Try.prog noDen 7 [(.string key), (.string s), (.agg ⟨[(.int .u8 ((c0.toNat : Nat) : Int)), (.int .u8 ((c1.toNat : Nat) : Int))]⟩)] σ (.bool true) := by
 refine PS.body (E := env) env_ok rfl rfl (by show _ ≤ _; exact of_decide_eq_true (by kernel_rfl)) (fun n hd => ?_)
 refine RA.seq hd ?_
 refine RA.region env_ok ?_
 refine OA.op1 (dst := (some 5)) (v := (.pointer (some ⟨n, 0, some 0⟩))) (n1 := (n + 1)) (w := (n, some ⟨[[(.int .u8 ((c0.toNat : Nat) : Int)), (.int .u8 ((c1.toNat : Nat) : Int))]], 2, 30, true⟩)) rfl rfl rfl rfl (by omega) ?_
 refine OA.p (some 6) (.bool false) rfl rfl rfl rfl ?_
 refine OA.nil ?_
 intro _
 refine RA.seq hd ?_
 refine RA.par (md := [some [], some [], some [], some [], some [], some [], some [], some [], some [], some [], some [], some [], some []]) env_ok (hd.of (by omega) (kb1 (by omega))) (by kernel_rfl) ?_
 refine PQ.pure (dst := (some 8)) (v := (.string key)) rfl rfl rfl noStore (none_ok _ _) rfl ?_
 refine PQ.pure (dst := (some 9)) (v := (.string key)) rfl rfl rfl noStore (none_ok _ _) rfl ?_
 refine PQ.pure (dst := (some 10)) (v := (.int .i64 ((key.size : Nat) : Int))) rfl rfl rfl noStore (none_ok _ _) rfl ?_
 refine PQ.pure (dst := (some 11)) (v := (.int .i64 (((min key.size 70) : Nat) : Int))) rfl rfl rfl noStore (none_ok _ _) (r_min (a := key.size) (b := 70) rfl rfl rfl) ?_
 refine PQ.pure (dst := (some 12)) (v := (.string (key.extract 0 (min key.size 70)))) rfl rfl rfl noStore (none_ok _ _) (r_cut (a := 0) (b := (min key.size 70)) rfl rfl (fun _ => rfl) (fun _ => rfl) rfl rfl rfl bound_nat (by omega) (by omega) rfl) ?_
 refine PQ.pure (dst := (some 13)) (v := (.string s)) rfl rfl rfl noStore (none_ok _ _) rfl ?_
 refine PQ.pure (dst := (some 14)) (v := (.string s)) rfl rfl rfl noStore (none_ok _ _) rfl ?_
 refine PQ.pure (dst := (some 15)) (v := (.int .i64 ((s.size : Nat) : Int))) rfl rfl rfl noStore (none_ok _ _) rfl ?_
 refine PQ.pure (dst := (some 16)) (v := (.int .i64 (((min s.size 200) : Nat) : Int))) rfl rfl rfl noStore (none_ok _ _) (r_min (a := s.size) (b := 200) rfl rfl rfl) ?_
 refine PQ.pure (dst := (some 17)) (v := (.string (s.extract 0 (min s.size 200)))) rfl rfl rfl noStore (none_ok _ _) (r_cut (a := 0) (b := (min s.size 200)) rfl rfl (fun _ => rfl) (fun _ => rfl) rfl rfl rfl bound_nat (by omega) (by omega) rfl) ?_
 refine PQ.callP (dst := (some 18)) (all := [(.string (key.extract 0 (min key.size 70))), (.string (s.extract 0 (min s.size 200)))]) (v := (.string (macF (key.extract 0 (min key.size 70)) (s.extract 0 (min s.size 200))))) noStore (dom_none _) rfl rfl rfl rfl rfl rfl rfl rfl (none_ok _ _) (s18 (key.extract 0 (min key.size 70)) (s.extract 0 (min s.size 200)) (by rw [size_cut _ _ _ (by omega)]; omega) (by rw [size_cut _ _ _ (by omega)]; omega)) ?_
 intro n1 hn1
 refine PQ.op (dst := (some 19)) (v := (.slice (some ⟨n1, 0, none⟩) 20 0)) (n1 := (n1 + 1)) (d1 := [(n1, some ⟨(bc (L (macF (key.extract 0 (min key.size 70)) (s.extract 0 (min s.size 200))))), 1, 5, true⟩)]) rfl rfl rfl noStore (none_ok _ _) (r_s2bN (S' := (macF (key.extract 0 (min key.size 70)) (s.extract 0 (min s.size 200)))) rfl rfl rfl rfl rfl rfl rfl rfl (by rw [macF_size])) (by omega) (kp1 (wr_new (by omega) (by omega))) ?_
 refine PQ.pure (dst := (some 7)) (v := (.slice (some ⟨n1, 0, none⟩) 20 0)) rfl rfl rfl noStore (none_ok _ _) rfl ?_
 refine PQ.done (d := [(n1, some ⟨(bc (L (macF (key.extract 0 (min key.size 70)) (s.extract 0 (min s.size 200))))), 1, 5, true⟩)]) (by kernel_rfl) ?_
 intro _
 refine RA.seq hd ?_
 refine RA.seq hd ?_
 refine RA.region env_ok ?_
 refine OA.p (some 20) (.slice (some ⟨n1, 0, none⟩) 20 0) rfl rfl rfl rfl ?_
 refine OA.p (some 21) (.int .i64 20) rfl rfl rfl rfl ?_
 refine OA.p (some 22) (.bool false) rfl rfl rfl (r_bin rfl rfl rfl (b_neq rfl)) ?_
 refine OA.nil ?_
 intro _
 refine RA.condF rfl ?_
 refine RA.skip env_ok ?_
 intro _
 refine RA.seq hd ?_
 refine RA.par (md := [some [], some [], some [n], some [], some [n1], some [n1], some [], some [n], some [], some [n1], none]) env_ok (hd.of (by omega) (kb2 (by omega))) (by kernel_rfl) ?_
 refine PQ.pure (dst := (some 23)) (v := (.slice (some ⟨n1, 0, none⟩) 20 0)) rfl rfl rfl noStore (none_ok _ _) rfl ?_
 refine PQ.pure (dst := (some 24)) (v := (.pointer (some ⟨n, 0, some 0⟩))) rfl rfl rfl noStore (none_ok _ _) (r_iaA (l := 0) rfl rfl rfl rfl rfl rfl (by omega) (by omega) (by show 0 + 0 * 1 = 0; omega)) ?_
 refine PQ.pure (dst := (some 25)) (v := (.int .u8 ((c0.toNat : Nat) : Int))) rfl rfl rfl (app [(n, some ⟨[[(.int .u8 ((c0.toNat : Nat) : Int)), (.int .u8 ((c1.toNat : Nat) : Int))]], 2, 30, true⟩)] noStore) (seen_one (V := []) (D := [(n1, some ⟨(bc (L (macF (key.extract 0 (min key.size 70)) (s.extract 0 (min s.size 200))))), 1, 5, true⟩), (n, some ⟨[[(.int .u8 ((c0.toNat : Nat) : Int)), (.int .u8 ((c1.toNat : Nat) : Int))]], 2, 30, true⟩)]) (by kernel_rfl) (get_there (by omega) get_here)) (r_load1 rfl rfl rfl rfl rfl get_here rfl rfl) ?_
 refine PQ.pure (dst := (some 26)) (v := (.int .u8 (((c0.toNat % 20) : Nat) : Int))) rfl rfl rfl noStore (none_ok _ _) (r_bin rfl rfl rfl (b_remN (a := c0.toNat) (c := 20) (by decide))) ?_
 refine PQ.pure (dst := (some 27)) (v := (.pointer (some ⟨n1, (c0.toNat % 20), some 0⟩))) rfl rfl rfl (app [(n1, some ⟨(bc (L (macF (key.extract 0 (min key.size 70)) (s.extract 0 (min s.size 200))))), 1, 5, true⟩)] noStore) (seen_one (V := []) (D := [(n1, some ⟨(bc (L (macF (key.extract 0 (min key.size 70)) (s.extract 0 (min s.size 200))))), 1, 5, true⟩), (n, some ⟨[[(.int .u8 ((c0.toNat : Nat) : Int)), (.int .u8 ((c1.toNat : Nat) : Int))]], 2, 30, true⟩)]) (by kernel_rfl) get_here) (r_iaS (l := (c0.toNat % 20)) rfl rfl rfl rfl rfl rfl (by omega) (by omega) get_here rfl (by omega)) ?_
 refine PQ.pure (dst := (some 28)) (v := (.int .u8 ((((L (macF (key.extract 0 (min key.size 70)) (s.extract 0 (min s.size 200)))).getD (c0.toNat % 20) 0).toNat : Nat) : Int))) rfl rfl rfl (app [(n1, some ⟨(bc (L (macF (key.extract 0 (min key.size 70)) (s.extract 0 (min s.size 200))))), 1, 5, true⟩)] noStore) (seen_one (V := []) (D := [(n1, some ⟨(bc (L (macF (key.extract 0 (min key.size 70)) (s.extract 0 (min s.size 200))))), 1, 5, true⟩), (n, some ⟨[[(.int .u8 ((c0.toNat : Nat) : Int)), (.int .u8 ((c1.toNat : Nat) : Int))]], 2, 30, true⟩)]) (by kernel_rfl) get_here) (r_loadB rfl rfl rfl rfl rfl get_here (by rw [L_len, macF_size]; omega)) ?_
 refine PQ.pure (dst := (some 29)) (v := (.pointer (some ⟨n, 0, some 1⟩))) rfl rfl rfl noStore (none_ok _ _) (r_iaA (l := 1) rfl rfl rfl rfl rfl rfl (by omega) (by omega) (by show 0 + 1 * 1 = 1; omega)) ?_
 refine PQ.pure (dst := (some 30)) (v := (.int .u8 ((c1.toNat : Nat) : Int))) rfl rfl rfl (app [(n, some ⟨[[(.int .u8 ((c0.toNat : Nat) : Int)), (.int .u8 ((c1.toNat : Nat) : Int))]], 2, 30, true⟩)] noStore) (seen_one (V := []) (D := [(n1, some ⟨(bc (L (macF (key.extract 0 (min key.size 70)) (s.extract 0 (min s.size 200))))), 1, 5, true⟩), (n, some ⟨[[(.int .u8 ((c0.toNat : Nat) : Int)), (.int .u8 ((c1.toNat : Nat) : Int))]], 2, 30, true⟩)]) (by kernel_rfl) (get_there (by omega) get_here)) (r_load1 rfl rfl rfl rfl rfl get_here rfl rfl) ?_
 refine PQ.pure (dst := (some 31)) (v := (.int .u8 (((((L (macF (key.extract 0 (min key.size 70)) (s.extract 0 (min s.size 200)))).getD (c0.toNat % 20) 0) ^^^ c1).toNat : Nat) : Int))) rfl rfl rfl noStore (none_ok _ _) (r_bin rfl rfl rfl (b_xor8 ((L (macF (key.extract 0 (min key.size 70)) (s.extract 0 (min s.size 200)))).getD (c0.toNat % 20) 0) c1)) ?_
 refine PQ.pure (dst := (some 32)) (v := (.pointer (some ⟨n1, (c0.toNat % 20), some 0⟩))) rfl rfl rfl (app [(n1, some ⟨(bc (L (macF (key.extract 0 (min key.size 70)) (s.extract 0 (min s.size 200))))), 1, 5, true⟩)] noStore) (seen_one (V := []) (D := [(n1, some ⟨(bc (L (macF (key.extract 0 (min key.size 70)) (s.extract 0 (min s.size 200))))), 1, 5, true⟩), (n, some ⟨[[(.int .u8 ((c0.toNat : Nat) : Int)), (.int .u8 ((c1.toNat : Nat) : Int))]], 2, 30, true⟩)]) (by kernel_rfl) get_here) (r_iaS (l := (c0.toNat % 20)) rfl rfl rfl rfl rfl rfl (by omega) (by omega) get_here rfl (by omega)) ?_
 refine PQ.op (dst := none) (v := (.tuple #[])) (n1 := (n1 + 1)) (d1 := [(n1, some ⟨(bc ((L (macF (key.extract 0 (min key.size 70)) (s.extract 0 (min s.size 200)))).set (c0.toNat % 20) (((L (macF (key.extract 0 (min key.size 70)) (s.extract 0 (min s.size 200)))).getD (c0.toNat % 20) 0) ^^^ c1))), 1, 5, true⟩)]) rfl rfl rfl _ (seen_any (V := []) (D := [(n1, some ⟨(bc (L (macF (key.extract 0 (min key.size 70)) (s.extract 0 (min s.size 200))))), 1, 5, true⟩), (n, some ⟨[[(.int .u8 ((c0.toNat : Nat) : Int)), (.int .u8 ((c1.toNat : Nat) : Int))]], 2, 30, true⟩)]) (by kernel_rfl)) (r_storeB (B' := (((L (macF (key.extract 0 (min key.size 70)) (s.extract 0 (min s.size 200)))).getD (c0.toNat % 20) 0) ^^^ c1)) rfl rfl rfl rfl rfl get_here (by rw [L_len, macF_size]; omega)) (by omega) (kp1 (wr_tight (by kernel_rfl) (by omega))) ?_
 refine PQ.done (d := [(n1, some ⟨(bc ((L (macF (key.extract 0 (min key.size 70)) (s.extract 0 (min s.size 200)))).set (c0.toNat % 20) (((L (macF (key.extract 0 (min key.size 70)) (s.extract 0 (min s.size 200)))).getD (c0.toNat % 20) 0) ^^^ c1))), 1, 5, true⟩)]) (by kernel_rfl) ?_
 intro _
 refine RA.rebase [(0, (.string key)), (1, (.string s)), (2, (.agg ⟨[(.int .u8 ((c0.toNat : Nat) : Int)), (.int .u8 ((c1.toNat : Nat) : Int))]⟩)), (5, (.pointer (some ⟨n, 0, some 0⟩))), (6, (.bool false)), (7, (.slice (some ⟨n1, 0, none⟩) 20 0)), (22, (.bool false))] ⟨rfl, rfl, rfl, rfl, rfl, rfl, rfl, trivial⟩ (fun τr2 => ?_)
 refine RA.seq hd ?_
 refine RA.par (md := [some [], some [], some [], some [], some [], some [], some [], some [], some [], some [], some [], some [], some [], none, some [], some [], some [n], some [], some [], some [], some []]) env_ok (hd.of (by omega) (kb3 (by omega))) (by kernel_rfl) ?_
 refine PQ.callP (dst := (some 33)) (all := []) (v := (.bool true)) noStore (dom_none _) rfl rfl rfl rfl rfl rfl rfl rfl (none_ok _ _) s17 ?_
 intro n3 hn3
 refine PQ.pure (dst := (some 34)) (v := (.bool true)) rfl rfl rfl noStore (none_ok _ _) rfl ?_
 refine PQ.pure (dst := (some 35)) (v := (.string key)) rfl rfl rfl noStore (none_ok _ _) rfl ?_
 refine PQ.pure (dst := (some 36)) (v := (.string key)) rfl rfl rfl noStore (none_ok _ _) rfl ?_
 refine PQ.pure (dst := (some 37)) (v := (.int .i64 ((key.size : Nat) : Int))) rfl rfl rfl noStore (none_ok _ _) rfl ?_
 refine PQ.pure (dst := (some 38)) (v := (.int .i64 (((min key.size 70) : Nat) : Int))) rfl rfl rfl noStore (none_ok _ _) (r_min (a := key.size) (b := 70) rfl rfl rfl) ?_
 refine PQ.pure (dst := (some 39)) (v := (.string (key.extract 0 (min key.size 70)))) rfl rfl rfl noStore (none_ok _ _) (r_cut (a := 0) (b := (min key.size 70)) rfl rfl (fun _ => rfl) (fun _ => rfl) rfl rfl rfl bound_nat (by omega) (by omega) rfl) ?_
 refine PQ.pure (dst := (some 40)) (v := (.string s)) rfl rfl rfl noStore (none_ok _ _) rfl ?_
 refine PQ.pure (dst := (some 41)) (v := (.string s)) rfl rfl rfl noStore (none_ok _ _) rfl ?_
 refine PQ.pure (dst := (some 42)) (v := (.int .i64 ((s.size : Nat) : Int))) rfl rfl rfl noStore (none_ok _ _) rfl ?_
 refine PQ.pure (dst := (some 43)) (v := (.int .i64 (((min s.size 200) : Nat) : Int))) rfl rfl rfl noStore (none_ok _ _) (r_min (a := s.size) (b := 200) rfl rfl rfl) ?_
 refine PQ.pure (dst := (some 44)) (v := (.string (s.extract 0 (min s.size 200)))) rfl rfl rfl noStore (none_ok _ _) (r_cut (a := 0) (b := (min s.size 200)) rfl rfl (fun _ => rfl) (fun _ => rfl) rfl rfl rfl bound_nat (by omega) (by omega) rfl) ?_
 refine PQ.pure (dst := (some 45)) (v := (.slice (some ⟨n1, 0, none⟩) 20 0)) rfl rfl rfl noStore (none_ok _ _) rfl ?_
 refine PQ.pure (dst := (some 46)) (v := (.string (bstr ((((L (macF (key.extract 0 (min key.size 70)) (s.extract 0 (min s.size 200)))).set (c0.toNat % 20) (((L (macF (key.extract 0 (min key.size 70)) (s.extract 0 (min s.size 200)))).getD (c0.toNat % 20) 0) ^^^ c1)).drop 0).take 20)))) rfl rfl rfl _ (seen_any (V := []) (D := [(n1, some ⟨(bc ((L (macF (key.extract 0 (min key.size 70)) (s.extract 0 (min s.size 200)))).set (c0.toNat % 20) (((L (macF (key.extract 0 (min key.size 70)) (s.extract 0 (min s.size 200)))).getD (c0.toNat % 20) 0) ^^^ c1))), 1, 5, true⟩), (n1, some ⟨(bc (L (macF (key.extract 0 (min key.size 70)) (s.extract 0 (min s.size 200))))), 1, 5, true⟩), (n, some ⟨[[(.int .u8 ((c0.toNat : Nat) : Int)), (.int .u8 ((c1.toNat : Nat) : Int))]], 2, 30, true⟩)]) (by kernel_rfl)) (r_b2s rfl rfl rfl rfl rfl rfl rfl rfl get_here (by rw [List.length_set, L_len, macF_size]; omega)) ?_
 refine PQ.callP (dst := (some 47)) (all := [(.string (key.extract 0 (min key.size 70))), (.string (s.extract 0 (min s.size 200))), (.string (bstr ((((L (macF (key.extract 0 (min key.size 70)) (s.extract 0 (min s.size 200)))).set (c0.toNat % 20) (((L (macF (key.extract 0 (min key.size 70)) (s.extract 0 (min s.size 200)))).getD (c0.toNat % 20) 0) ^^^ c1)).drop 0).take 20)))]) (v := (.bool (decide ((bstr ((((L (macF (key.extract 0 (min key.size 70)) (s.extract 0 (min s.size 200)))).set (c0.toNat % 20) (((L (macF (key.extract 0 (min key.size 70)) (s.extract 0 (min s.size 200)))).getD (c0.toNat % 20) 0) ^^^ c1)).drop 0).take 20)) = (macF (key.extract 0 (min key.size 70)) (s.extract 0 (min s.size 200))))))) noStore (dom_none _) rfl rfl rfl rfl rfl rfl rfl rfl (none_ok _ _) (s20 (key.extract 0 (min key.size 70)) (s.extract 0 (min s.size 200)) (bstr ((((L (macF (key.extract 0 (min key.size 70)) (s.extract 0 (min s.size 200)))).set (c0.toNat % 20) (((L (macF (key.extract 0 (min key.size 70)) (s.extract 0 (min s.size 200)))).getD (c0.toNat % 20) 0) ^^^ c1)).drop 0).take 20)) (by rw [size_cut _ _ _ (by omega)]; omega) (by rw [size_cut _ _ _ (by omega)]; omega)) ?_
 intro n4 hn4
 refine PQ.pure (dst := (some 48)) (v := (.pointer (some ⟨n, 0, some 1⟩))) rfl rfl rfl noStore (none_ok _ _) (r_iaA (l := 1) rfl rfl rfl rfl rfl rfl (by omega) (by omega) (by show 0 + 1 * 1 = 1; omega)) ?_
 refine PQ.pure (dst := (some 49)) (v := (.int .u8 ((c1.toNat : Nat) : Int))) rfl rfl rfl (app [(n, some ⟨[[(.int .u8 ((c0.toNat : Nat) : Int)), (.int .u8 ((c1.toNat : Nat) : Int))]], 2, 30, true⟩)] noStore) (seen_one (V := []) (D := [(n1, some ⟨(bc ((L (macF (key.extract 0 (min key.size 70)) (s.extract 0 (min s.size 200)))).set (c0.toNat % 20) (((L (macF (key.extract 0 (min key.size 70)) (s.extract 0 (min s.size 200)))).getD (c0.toNat % 20) 0) ^^^ c1))), 1, 5, true⟩), (n1, some ⟨(bc (L (macF (key.extract 0 (min key.size 70)) (s.extract 0 (min s.size 200))))), 1, 5, true⟩), (n, some ⟨[[(.int .u8 ((c0.toNat : Nat) : Int)), (.int .u8 ((c1.toNat : Nat) : Int))]], 2, 30, true⟩)]) (by kernel_rfl) (gt2 (by omega) get_here)) (r_load1 rfl rfl rfl rfl rfl get_here rfl rfl) ?_
 refine PQ.pure (dst := (some 50)) (v := (.bool (decide (((c1.toNat : Nat) : Int) = 0)))) rfl rfl rfl noStore (none_ok _ _) (r_bin rfl rfl rfl (b_eql rfl)) ?_
 refine PQ.pure (dst := (some 51)) (v := (.bool ((decide ((bstr ((((L (macF (key.extract 0 (min key.size 70)) (s.extract 0 (min s.size 200)))).set (c0.toNat % 20) (((L (macF (key.extract 0 (min key.size 70)) (s.extract 0 (min s.size 200)))).getD (c0.toNat % 20) 0) ^^^ c1)).drop 0).take 20)) = (macF (key.extract 0 (min key.size 70)) (s.extract 0 (min s.size 200))))) == (decide (((c1.toNat : Nat) : Int) = 0))))) rfl rfl rfl noStore (none_ok _ _) (r_eqlB rfl rfl rfl rfl rfl) ?_
 refine PQ.pure (dst := (some 52)) (v := (.bool ((decide ((bstr ((((L (macF (key.extract 0 (min key.size 70)) (s.extract 0 (min s.size 200)))).set (c0.toNat % 20) (((L (macF (key.extract 0 (min key.size 70)) (s.extract 0 (min s.size 200)))).getD (c0.toNat % 20) 0) ^^^ c1)).drop 0).take 20)) = (macF (key.extract 0 (min key.size 70)) (s.extract 0 (min s.size 200))))) == (decide (((c1.toNat : Nat) : Int) = 0))))) rfl rfl rfl noStore (none_ok _ _) rfl ?_
 refine PQ.pure (dst := (some 6)) (v := (.bool ((decide ((bstr ((((L (macF (key.extract 0 (min key.size 70)) (s.extract 0 (min s.size 200)))).set (c0.toNat % 20) (((L (macF (key.extract 0 (min key.size 70)) (s.extract 0 (min s.size 200)))).getD (c0.toNat % 20) 0) ^^^ c1)).drop 0).take 20)) = (macF (key.extract 0 (min key.size 70)) (s.extract 0 (min s.size 200))))) == (decide (((c1.toNat : Nat) : Int) = 0))))) rfl rfl rfl noStore (none_ok _ _) rfl ?_
 refine PQ.done (d := []) (by kernel_rfl) ?_
 intro _
 refine RA.ret env_ok ?_
 refine ⟨.inr rfl, [(.bool ((decide ((bstr ((((L (macF (key.extract 0 (min key.size 70)) (s.extract 0 (min s.size 200)))).set (c0.toNat % 20) (((L (macF (key.extract 0 (min key.size 70)) (s.extract 0 (min s.size 200)))).getD (c0.toNat % 20) 0) ^^^ c1)).drop 0).take 20)) = (macF (key.extract 0 (min key.size 70)) (s.extract 0 (min s.size 200))))) == (decide (((c1.toNat : Nat) : Int) = 0))))], (resL_cons rfl resL_nil), (bent_done (Nat.mod_lt _ (by decide))), (kc3 (by omega))⟩

theorem wf_byte {b : Int} (h : (Lit.int .u8 b).wf = true) : ∃ c : UInt8, b = ((c.toNat : Nat) : Int) := by
  have h2 : 0 ≤ b ∧ b < 256 := by
    simp [Lit.wf, IntKind.min, IntKind.max, IntKind.signed, IntKind.bits] at h
    omega
  exact ⟨UInt8.ofNat b.toNat, by simp [UInt8.toNat_ofNat']; omega⟩
theorem runMacOf (n : Nat) (σ : Store) (hd : Dom n σ) (x0 x1 : Value) (h0 : g9.G σ [x0]) (h1 : g9.G σ [x1]) : CQ Try.prog noDen 5 [x0, x1] n σ (fun v _ _ => v = .bool true) := by
  obtain ⟨b0, q0, w0⟩ := h0
  cases q0
  obtain ⟨b1, q1, w1⟩ := h1
  cases q1
  exact CQ.ps hd (s5 b0 b1) fun _ _ => rfl
theorem runMacIs (n : Nat) (σ : Store) (hd : Dom n σ) (x0 x1 x2 : Value) (h0 : g9.G σ [x0]) (h1 : g9.G σ [x1]) (h2 : g9.G σ [x2]) : CQ Try.prog noDen 6 [x0, x1, x2] n σ (fun v _ _ => v = .bool true) := by
  obtain ⟨b0, q0, w0⟩ := h0
  cases q0
  obtain ⟨b1, q1, w1⟩ := h1
  cases q1
  obtain ⟨b2, q2, w2⟩ := h2
  cases q2
  exact CQ.ps hd (s6 b0 b1 b2 w2) fun _ _ => rfl
theorem runMacBytes (n : Nat) (σ : Store) (hd : Dom n σ) (x0 x1 x2 : Value) (h0 : g9.G σ [x0]) (h1 : g9.G σ [x1]) (h2 : ∃ acs, x2 = .agg ⟨acs⟩ ∧ g30.G σ acs) : CQ Try.prog noDen 7 [x0, x1, x2] n σ (fun v _ _ => v = .bool true) := by
  obtain ⟨b0, q0, w0⟩ := h0
  cases q0
  obtain ⟨b1, q1, w1⟩ := h1
  cases q1
  obtain ⟨acs, rfl, k2⟩ := h2
  obtain ⟨_, _, rfl, ⟨a1, rfl, w3⟩, _, _, rfl, ⟨a2, rfl, w4⟩, rfl⟩ := k2
  obtain ⟨c0, rfl⟩ := wf_byte w3
  obtain ⟨c1, rfl⟩ := wf_byte w4
  exact CQ.ps hd (s7 b0 b1 c0 c1) fun _ _ => rfl
end Go.Proofs.Ytdnkhdkflemkeaa.Vt
